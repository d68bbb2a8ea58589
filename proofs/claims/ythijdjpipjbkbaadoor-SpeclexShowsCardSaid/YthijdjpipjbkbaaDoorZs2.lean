/- A part (2 of 4) of this proof: For every list of tokens that the guards let in, SpeclexShows returns true: Show prints the list as the reference does. -/
import Derived.Test.YthijdjpipjbkbaaDoorRows
import Derived.WalkKit
import Derived.ProofKit
import Derived.OpenShut
import Derived.ShutString
import Derived.ChangeOld
import Derived.Below
import Derived.SizedLaws
import Derived.Maps.Own
import Derived.Maps.OwnOps
import Derived.Maps.OwnSet
import Derived.Handy
import Derived.Outline
import Derived.Lib.OthersKept
import Derived.Lib.RuneBytes
import Derived.Lib.RuneLoops
import Derived.Lib.RuneCountTail
import Derived.Lib.TrimU
import Derived.Lib.QuoteLoop
import Derived.Laws.RangeAny
import Derived.Test.YthijdjpipjbkbaaDoorZs1
section
namespace Go.Proofs.YthijdjpipjbkbaaDoor.H
open Go.RowKit Go.ChangeShapes Go.WideShapes Go.ChangeAt Go.Proofs.YthijdjpipjbkbaaDoorW.PrintWords Go.Proofs.YthijdjpipjbkbaaDoorW.PrintLast Go.Proofs.YthijdjpipjbkbaaDoorW.PrintMore
set_option linter.unusedVariables false
set_option linter.unusedSimpArgs false
def szList {α : Type} (f : α → Nat) : List α → Nat
  | [] => 0
  | x :: r => f x + szList f r
structure Opens (b : Nat) {α : Type} (P : Program) (t : TypeId) (K : Kd α) (ok : α → Prop) (sz : α → Nat) : Prop where
  cells : P.cellsOf t = K.sz
  op : ∀ {H : Type} {enc : TypeId × Value → H} {W : World} {base : Nat} {sp : Nat → Bool} {held : Bool} {n : Nat} {cs : List Value} {x : DataW H × List MemPlace}, n ≤ b →
    DataW.trod enc P W base sp held n t cs = some x → (∀ u ∈ DataW.weights P t x.1, u ≤ reachBytes) → ∃ v, K.K W v cs ∧ ok v ∧ sz v ≤ Rows.uptoBulk x.1
structure OpensF (b : Nat) {β : Type} (P : Program) (fs : List Field) (o : Nat) (K : Kd β) (ok : β → Prop) (sz : β → Nat) : Prop where
  op : ∀ {H : Type} {enc : TypeId × Value → H} {W : World} {base : Nat} {sp : Nat → Bool} {held : Bool} {n : Nat} {cs : List Value} {xs : List (DataW H × List MemPlace)}, n ≤ b →
    cs.length = o + K.sz → xs.length = fs.length → (∀ (i : Nat) (f : Field), fs[i]? = some f → DataW.trod enc P W base sp held n f.type ((cs.drop f.offset).take (P.cellsOf f.type)) = xs[i]?) →
    (∀ u ∈ DataW.weightsEach P (fs.map (·.type)) (xs.map (·.1)), u ≤ reachBytes) → ∃ v, K.K W v (cs.drop o) ∧ ok v ∧ sz v ≤ Rows.uptoBulkAll (xs.map (·.1))
section
variable {b : Nat} {P : Program} {α β : Type} {t e : TypeId}
theorem opens_int (k : IntKind) (ht : P.underlying t = some (.int k)) (hc : P.cellsOf t = 1) : Opens b P t (Kd.int k) (fun n => (Lit.int k n).wf = true) (fun _ => 1) :=
  ⟨hc, fun {H enc W base sp held n cs x} _ h _ => by obtain ⟨n, rfl, rfl, hw⟩ := DataW.trod_int ht h; exact ⟨n, rfl, hw, by simp [Rows.uptoBulk]⟩⟩
theorem opens_string (ht : P.underlying t = some .string) (hc : P.cellsOf t = 1) : Opens b P t Kd.string (fun s => s.size ≤ reachBytes) (fun s => s.size + 1) :=
  ⟨hc, fun {H enc W base sp held n cs x} _ h hw => by
    obtain ⟨s, rfl, rfl, _⟩ := DataW.trod_string ht h
    refine ⟨s, rfl, ?_, by simp [Rows.uptoBulk]⟩
    have := hw s.data.toList.length (by simp [DataW.weights])
    simpa using this⟩
theorem weightsAll_mem {H : Type} {e : TypeId} : ∀ {ds : List (DataW H)} {d : DataW H}, d ∈ ds → ∀ u ∈ d.weights P e, u ∈ DataW.weightsAll P e ds
  | [], _, h, _, _ => by cases h
  | d0 :: r, d, h, u, hu => by
    simp only [DataW.weightsAll, List.mem_append]
    rcases List.mem_cons.1 h with rfl | h
    · exact .inl hu
    · exact .inr (weightsAll_mem h u hu)
theorem list_of {Q : Nat → α → Prop} : ∀ (n : Nat), (∀ i, i < n → ∃ v, Q i v) → ∃ l : List α, l.length = n ∧ ∀ (i : Nat) v, l[i]? = some v → Q i v
  | 0, _ => ⟨[], rfl, fun i v h => by simp at h⟩
  | n + 1, h => by
    obtain ⟨l, hl, hq⟩ := list_of n (fun i hi => h i (by omega))
    obtain ⟨v, hv⟩ := h n (by omega)
    refine ⟨l ++ [v], by simp [hl], fun i u hu => ?_⟩
    rcases Nat.lt_or_ge i n with hi | hi
    · rw [List.getElem?_append_left (by omega)] at hu; exact hq i u hu
    · rw [List.getElem?_append_right (by omega), hl] at hu
      have h0 : i - n = 0 := by
        rcases Nat.eq_zero_or_pos (i - n) with h0 | h0
        · exact h0
        · rw [List.getElem?_eq_none (by simp; omega)] at hu; cases hu
      rw [h0] at hu
      obtain rfl : v = u := by simpa using hu
      obtain rfl : i = n := by omega
      exact hv
theorem opens_slice {d : Kd α} {ok : α → Prop} {sz : α → Nat} (ht : P.underlying t = some (.slice e)) (hc : P.cellsOf t = 1) {B : Nat} (hB : P.bytesOf e = B) (h : Opens b P e d ok sz) :
    Opens b P t (Kd.slice e d) (fun l => l.length * B ≤ reachBytes ∧ ∀ x ∈ l, ok x) (fun l => szList sz l + 1) :=
  ⟨hc, fun {H enc W base sp held n0 cs x} hn0 h0 hw => by
    rcases DataW.trod_slice ht h0 with ⟨rfl, rfl⟩ | ⟨a, len, cap, elems, rest, n, hn1, rfl, rfl, hb, hl, hm, hlen, hel, _, _⟩
    · exact ⟨[], ⟨none, 0, rfl, Nat.le_refl _, Kd.C_nil d W⟩, by simp, by simp [szList, Rows.uptoBulk]⟩
    · have hsz := hw ((elems.map (·.1)).length * P.bytesOf e + (rest.map (·.1)).length * P.bytesOf e) (by simp [DataW.weights, ht, Nat.add_mul])
      have hin : ∀ y ∈ elems, ∀ u ∈ y.1.weights P e, u ≤ reachBytes := fun y hy u hu => hw u (by
        simp only [DataW.weights, ht, List.mem_cons, List.mem_append]
        exact .inr (.inl (weightsAll_mem (List.mem_map_of_mem hy) u hu)))
      obtain ⟨l, hll, hq⟩ := list_of (Q := fun i v => ∃ c, W.cells? base (a.add (i * P.cellsOf e)) (P.cellsOf e) = some c ∧ d.K W v c ∧ ok v ∧ ∃ h : i < elems.length, sz v ≤ Rows.uptoBulk elems[i].1) len (fun i hi => by
        have h1 := hel i hi
        have hi' : i < elems.length := by omega
        rw [List.getElem?_eq_getElem hi'] at h1
        obtain ⟨c, h2, h3⟩ := Option.bind_eq_some_iff.1 h1
        obtain ⟨v, hK, hv, hz⟩ := h.op (by omega) h3 (hin _ (List.getElem_mem hi'))
        exact ⟨v, c, h2, hK, hv, hi', hz⟩)
      refine ⟨l, ⟨some a, cap, by rw [hll], by omega, rfl, ?_, fun hn => ⟨a, rfl, fun j p hp => ?_⟩⟩, ⟨?_, ?_⟩, ?_⟩
      · have : cap ≤ 9223372036854775807 := hm
        omega
      · obtain ⟨c, h2, hK, _⟩ := hq j p hp
        obtain ⟨_, hcl, hcc⟩ := World.cells?_some h2
        refine ⟨c, d.K_len hK, hK, fun i u hu => ?_⟩
        have hi : i < P.cellsOf e := by
          rcases Nat.lt_or_ge i c.length with q | q
          · omega
          · rw [List.getElem?_eq_none q] at hu; cases hu
        have := hcc i hi
        rw [Addr.add_add, h.cells] at this
        rw [this, hu]
      · simp only [List.length_map, hlen, hB] at hsz
        rw [hll]
        omega
      · intro x hx
        obtain ⟨i, hi, rfl⟩ := List.getElem_of_mem hx
        obtain ⟨_, _, _, hv, _⟩ := hq i _ (List.getElem?_eq_getElem hi)
        exact hv
      · have hs : ∀ (l : List α) (es : List (DataW H × List MemPlace)), l.length = es.length → (∀ (i : Nat) v, l[i]? = some v → ∃ h : i < es.length, sz v ≤ Rows.uptoBulk es[i].1) → szList sz l ≤ Rows.uptoBulkAll (es.map (·.1)) := by
          intro l
          induction l with
          | nil => intro es _ _; simp [szList]
          | cons y r ih =>
            intro es hl hq
            cases es with
            | nil => simp at hl
            | cons z q =>
              obtain ⟨_, h0⟩ := hq 0 y rfl
              have := ih q (by simpa using hl) (fun i v hi => by
                obtain ⟨h1, h2⟩ := hq (i + 1) v (by simpa using hi)
                exact ⟨by simpa using h1, by simpa using h2⟩)
              simp only [szList, List.map_cons, Rows.uptoBulkAll]
              simp at h0
              omega
        have := hs l elems (by omega) (fun i v hi => by obtain ⟨_, _, _, _, h⟩ := hq i v hi; exact h)
        simp only [Rows.uptoBulk]
        omega⟩
theorem opensF_one {f : Field} {o : Nat} {K : Kd α} {ok : α → Prop} {sz : α → Nat} {t : TypeId} (h : Opens b P t K ok sz) (ht : f.type = t) (ho : f.offset = o) : OpensF b P [f] o K ok sz := by
  subst ht
  constructor
  intro H enc W base sp held n cs xs hn hl hx hf hw
  obtain ⟨y, rfl⟩ : ∃ y, xs = [y] := by
    match xs, hx with
    | [y], _ => exact ⟨y, rfl⟩
  have h1 := hf 0 f rfl
  rw [ho, h.cells, List.take_of_length_le (by rw [List.length_drop]; omega)] at h1
  obtain ⟨v, hk, hv, hz⟩ := h.op hn (by simpa using h1) (fun u hu => hw u (by simp [DataW.weightsEach]; exact hu))
  exact ⟨v, hk, hv, by simpa [Rows.uptoBulkAll] using hz⟩
theorem opensF_cons {f : Field} {fs : List Field} {o : Nat} {K1 : Kd α} {K2 : Kd β} {ok1 : α → Prop} {ok2 : β → Prop} {sz1 : α → Nat} {sz2 : β → Nat} {t : TypeId} (h : Opens b P t K1 ok1 sz1) (ht : f.type = t) (ho : f.offset = o) (hr : OpensF b P fs (o + K1.sz) K2 ok2 sz2) :
    OpensF b P (f :: fs) o (Kd.pair K1 K2) (fun p => ok1 p.1 ∧ ok2 p.2) (fun p => sz1 p.1 + sz2 p.2) := by
  subst ht
  constructor
  intro H enc W base sp held n cs xs hn hl hx hf hw
  obtain ⟨y, ys, rfl⟩ : ∃ y ys, xs = y :: ys := by
    match xs, hx with
    | y :: ys, _ => exact ⟨y, ys, rfl⟩
  have hl' : cs.length = o + (K1.sz + K2.sz) := hl
  have h1 := hf 0 f rfl
  rw [ho, h.cells] at h1
  obtain ⟨v1, k1, g1, z1⟩ := h.op hn (by simpa using h1) (fun u hu => hw u (by simp [DataW.weightsEach]; exact .inl hu))
  obtain ⟨v2, k2, g2, z2⟩ := hr.op (cs := cs) (xs := ys) hn (by omega) (by simpa using hx) (fun i g hg => by have := hf (i + 1) g (by simpa using hg); simpa using this) (fun u hu => hw u (by simp [DataW.weightsEach]; exact .inr hu))
  refine ⟨(v1, v2), ⟨(cs.drop o).take K1.sz, cs.drop (o + K1.sz), ?_, k1, k2⟩, ⟨g1, g2⟩, by simp only [List.map_cons, Rows.uptoBulkAll]; omega⟩
  rw [← List.drop_drop, List.take_append_drop]
theorem opens_struct {fs : Array Field} {K : Kd α} {ok : α → Prop} {sz : α → Nat} (ht : P.underlying t = some (.struct fs)) (hc : P.cellsOf t = K.sz) (h : OpensF b P fs.toList 0 K ok sz) : Opens (b + 1) P t K ok (fun v => sz v + 1) :=
  ⟨hc, fun {H enc W base sp held n cs x} hn h0 hw => by
    obtain ⟨xs, m, rfl, rfl, hl, hx, hf⟩ := DataW.trod_struct ht h0
    obtain ⟨v, hk, ho, hz⟩ := h.op (cs := cs) (xs := xs) (by omega) (by omega) (by simpa using hx) (fun i f hi => hf i f (by simpa using hi)) (fun u hu => hw u (by simp only [DataW.weights, ht]; exact hu))
    exact ⟨v, by simpa using hk, ho, by simp only [Rows.uptoBulk]; omega⟩⟩
theorem opens_iso {K : Kd α} {ok : α → Prop} {sz : α → Nat} (f : β → α) (g : α → β) (hfg : ∀ a, f (g a) = a) (h : Opens b P t K ok sz) : Opens b P t (Kd.iso K f) (fun x => ok (f x)) (fun x => sz (f x)) :=
  ⟨h.cells, fun hn h0 hw => by
    obtain ⟨v, hk, ho, hz⟩ := h.op hn h0 hw
    exact ⟨g v, by show K.K _ (f (g v)) _; rw [hfg]; exact hk, by show ok (f (g v)); rw [hfg]; exact ho, by show sz (f (g v)) ≤ _; rw [hfg]; exact hz⟩⟩
theorem Opens.imp {K : Kd α} {ok ok' : α → Prop} {sz sz' : α → Nat} (h : Opens b P t K ok sz) (hi : ∀ x, ok x → ok' x) (hs : ∀ x, sz' x ≤ sz x) : Opens b P t K ok' sz' :=
  ⟨h.cells, fun hn h0 hw => by obtain ⟨v, hk, ho, hz⟩ := h.op hn h0 hw; exact ⟨v, hk, hi v ho, Nat.le_trans (hs v) hz⟩⟩
theorem Opens.le {K : Kd α} {ok : α → Prop} {sz : α → Nat} {c : Nat} (h : Opens b P t K ok sz) (hc : c ≤ b) : Opens c P t K ok sz := ⟨h.cells, fun hn h0 hw => h.op (Nat.le_trans hn hc) h0 hw⟩
theorem Opens.of {H : Type} {enc : TypeId × Value → H} {W : World} {base : Nat} {sp : Nat → Bool} {held : Bool} {K : Kd α} {ok : α → Prop} {sz : α → Nat} (h : ∀ b, Opens b P t K ok sz) {v : Value} {d : DataW H} {ps : List MemPlace} {ts : List TypeId} {ds : List (DataW H)} {j : Nat}
    (hsz : (DataW.weightsEach P ts ds).all (· ≤ reachBytes) = true) (ht : ts[j]? = some t) (hd : ds[j]? = some d) (h0 : DataW.Trod enc P W base sp held t v d ps) : ∃ x, K.K W x v.cells.toList ∧ ok x ∧ sz x ≤ Rows.uptoBulk d := by
  obtain ⟨fuel, hf⟩ := h0
  exact (h fuel).op (Nat.le_refl _) hf (fun u hu => by simpa using List.all_eq_true.1 hsz u (DataW.weights_mem_each ht hd u hu))
end
end Go.Proofs.YthijdjpipjbkbaaDoor.H
end
section
namespace Go.Proofs.YthijdjpipjbkbaaDoor.H
open Go.RowKit Go.ChangeShapes Go.WideShapes Go.ChangeAt Go.Proofs.YthijdjpipjbkbaaDoorW.PrintWords Go.Proofs.YthijdjpipjbkbaaDoorW.PrintLast Go.Proofs.YthijdjpipjbkbaaDoorW.PrintMore
set_option linter.unusedVariables false
def ok32 (x : S32) : Prop := ((fun n : Int => (Lit.int .i64 n).wf = true) x.f0 ∧ ((fun s : ByteArray => s.size ≤ reachBytes) x.f1 ∧ (fun n : Int => (Lit.int .i64 n).wf = true) x.f2))
def wt32 (x : S32) : Nat := ((fun _ : Int => 1) x.f0 + ((fun s : ByteArray => s.size + 1) x.f1 + (fun _ : Int => 1) x.f2)) + 1
set_option maxRecDepth 100000 in
theorem opens_k32 (b : Nat) : Opens b Tryd.prog 32 k32 ok32 wt32 := by
  have hS : Opens (b + 1) Tryd.prog 32 (Kd.pair (Kd.int .i64) (Kd.pair Kd.string (Kd.int .i64))) (fun p : (Int) × (ByteArray) × (Int) => (fun n : Int => (Lit.int .i64 n).wf = true) p.1 ∧ (fun p : (ByteArray) × (Int) => (fun s : ByteArray => s.size ≤ reachBytes) p.1 ∧ (fun n : Int => (Lit.int .i64 n).wf = true) p.2) p.2) (fun v => (fun p : (Int) × (ByteArray) × (Int) => (fun _ : Int => 1) p.1 + (fun p : (ByteArray) × (Int) => (fun s : ByteArray => s.size + 1) p.1 + (fun _ : Int => 1) p.2) p.2) v + 1) := by
    refine opens_struct Tryd.underlying32 (by kernel_rfl) ?_
    refine opensF_cons (ok1 := (fun n : Int => (Lit.int .i64 n).wf = true)) (ok2 := (fun p : (ByteArray) × (Int) => (fun s : ByteArray => s.size ≤ reachBytes) p.1 ∧ (fun n : Int => (Lit.int .i64 n).wf = true) p.2)) (sz1 := (fun _ : Int => 1)) (sz2 := (fun p : (ByteArray) × (Int) => (fun s : ByteArray => s.size + 1) p.1 + (fun _ : Int => 1) p.2)) (opens_int .i64 Tryd.underlying30 (by kernel_rfl)) rfl (by kernel_rfl) ?_
    refine opensF_cons (ok1 := (fun s : ByteArray => s.size ≤ reachBytes)) (ok2 := (fun n : Int => (Lit.int .i64 n).wf = true)) (sz1 := (fun s : ByteArray => s.size + 1)) (sz2 := (fun _ : Int => 1)) (opens_string Tryd.underlying9 (by kernel_rfl)) rfl (by kernel_rfl) ?_
    exact opensF_one (ok := (fun n : Int => (Lit.int .i64 n).wf = true)) (sz := (fun _ : Int => 1)) (opens_int .i64 Tryd.underlying3 (by kernel_rfl)) rfl (by kernel_rfl)
  have hI := opens_iso (fun x : S32 => (x.f0, x.f1, x.f2)) (fun p => ⟨p.1, p.2.1, p.2.2⟩) (fun _ => rfl) hS
  exact (hI.imp (fun _ h => h) (fun _ => Nat.le_refl _)).le (Nat.le_succ b)
theorem ok32_iff (x : S32) : ok32 x ↔ ((Lit.int .i64 x.f0).wf = true ∧ (x.f1.size ≤ reachBytes ∧ (Lit.int .i64 x.f2).wf = true)) := Iff.rfl
end Go.Proofs.YthijdjpipjbkbaaDoor.H
end
section
namespace Go.Proofs.YthijdjpipjbkbaaDoor.H
open Go.RowKit Go.Proofs.YthijdjpipjbkbaaDoorW.PrintWords Go.Proofs.YthijdjpipjbkbaaDoorW.PrintLast Go.Proofs.YthijdjpipjbkbaaDoorW.PrintMore
open Go.WideMaps Go.Maps
set_option linter.unusedVariables false
set_option linter.unusedSimpArgs false
theorem ba_ext {a b : ByteArray} (h : a.data.toList = b.data.toList) : a = b := by
  cases a; cases b; simp_all
instance decBA : DecidableEq ByteArray := fun a b => decidable_of_iff (a.data.toList = b.data.toList) ⟨ba_ext, fun h => by rw [h]⟩
instance decMemBA (s : ByteArray) (l : List ByteArray) : Decidable (s ∈ l) := decidable_of_iff (l.any (fun y => decide (y = s)) = true) (by simp)
end Go.Proofs.YthijdjpipjbkbaaDoor.H
end
section
namespace Go.Proofs.YthijdjpipjbkbaaDoor.H
open Go.RowKit
set_option linter.unusedVariables false
set_option linter.unusedSimpArgs false
theorem rune_w_pos (s : ByteArray) (pos : Nat) : 1 ≤ (Utf8.decode s pos).2 := Lib.width_pos s pos
theorem rune_w_le (s : ByteArray) (pos : Nat) (h : pos < s.size) : pos + (Utf8.decode s pos).2 ≤ s.size := by
  have h1 := Lib.tail_decode s pos 0
  have h2 := Lib.width_le (s.extract pos s.size) (by simp; omega)
  rw [Lib.tail_decode] at h2
  simp at h2
  omega
def runesFrom (s : ByteArray) : Nat → Nat → List S65
  | 0, _ => []
  | f + 1, pos => if pos < s.size then ⟨((Utf8.decode s pos).1 : Int), (pos : Int), ((Utf8.decode s pos).2 : Int)⟩ :: runesFrom s f (pos + (Utf8.decode s pos).2) else []
def runesL (s : ByteArray) : List S65 := runesFrom s s.size 0
theorem runesFrom_end (s : ByteArray) (f pos : Nat) (h : ¬ pos < s.size) : runesFrom s f pos = [] := by
  cases f <;> simp [runesFrom, h]
end Go.Proofs.YthijdjpipjbkbaaDoor.H
end
section
namespace Go.Proofs.YthijdjpipjbkbaaDoor.H
open Go.RowKit Go.Proofs.YthijdjpipjbkbaaDoorW.PrintWords Go.Proofs.YthijdjpipjbkbaaDoorW.PrintLast Go.Proofs.YthijdjpipjbkbaaDoorW.PrintMore
open Go.Maps
set_option linter.unusedVariables false
set_option linter.unusedSimpArgs false
def oneOf (s : ByteArray) : Int × Int := if s.size = 0 then (0, 0) else (((Utf8.decode s 0).1 : Int), ((Utf8.decode s 0).2 : Int))
def arboristref01_one.f (a0 : ByteArray) : Option (Int × Int) := some (oneOf a0)
theorem ret_two {a b c d : Int} (h : (a, b) = (c, d)) : Ending.returned (.tuple #[.int .i32 a, .int .i64 b]) = .returned (.tuple #[.int .i32 c, .int .i64 d]) := by
  obtain ⟨rfl, rfl⟩ : a = c ∧ b = d := by simpa using h
  rfl
def OneRel (s : ByteArray) (w : World) (v4 v5 : Value) (wr : World) : Prop :=
  Below w.heap.size w wr ∧ v4 = .int .i64 s.size ∧ ((wr.heap[w.heap.size]? = some (.stringIter s 0) ∧ v5 = .int .i32 0) ∨ (0 < s.size ∧ wr.heap[w.heap.size]? = some (.stringIter s (Utf8.decode s 0).2) ∧ v5 = .int .i32 (Utf8.decode s 0).1))
set_option maxRecDepth 100000 in
set_option maxHeartbeats 1000000 in
theorem arboristref01_one.calls (a0 : ByteArray) (r1 : Int) (r2 : Int) (w : World) (h : arboristref01_one.f a0 = some (r1, r2)) :
    Calls Tryd.prog 57 #[.string a0] w fun e w' => e = .returned (.tuple #[.int .i32 r1, .int .i64 r2]) ∧ Below w.heap.size w w' := by
  have HP := Aside0.mk (Option.some.inj h)
  clear h
  go_enter Tryd.func57, Tryd.ntmps57
  go_wp2
  go_loopw [4, 5] (fun v4 v5 wr => OneRel a0 w v4 v5 wr) (fun _ _ wr => a0.size - wr.iterPos w.heap.size)
  case atStart => exact ⟨below_alloc (Below.refl _ _) _, rfl, .inl ⟨World.iter_heap w a0 0, rfl⟩⟩
  case round =>
    obtain ⟨hB, rfl, (⟨hit, rfl⟩ | ⟨h0, hit, rfl⟩)⟩ := hrel
    · by_cases hp : 0 < a0.size
      · have hnx : ∀ ty, (Instr.next (.pointer (some ⟨w.heap.size, 0, none⟩)) true ty).run Tryd.prog wr = _ := fun ty => Lib.run_next_any_at wr w.heap.size a0 0 ty hit hp
        have hwd := rune_w_pos a0 0
        have hit2 := Lib.iterAt_heap wr w.heap.size a0 0 (0 + (Utf8.decode a0 0).2) hit
        have hb2 := Lib.below_iterAt hB (k := w.heap.size) (Nat.le_refl _) a0 (0 + (Utf8.decode a0 0).2)
        rw [Nat.zero_add] at hit2 hb2
        have HIT := Aside0.mk hit
        have HIT2 := Aside0.mk hit2
        have HB2 := Aside0.mk hb2
        clear hit hit2 hb2 hB
        go_wp2
        go_roundw
        case rel => exact ⟨HB2.out, rfl, .inr ⟨hp, HIT2.out, rfl⟩⟩
        case measure => simp only [World.iterPos, HIT.out, HIT2.out]; omega
      · have hnx : ∀ ty, (Instr.next (.pointer (some ⟨w.heap.size, 0, none⟩)) true ty).run Tryd.prog wr = _ := fun ty => Lib.run_next_end_at wr w.heap.size a0 0 ty hit hp
        have HB := Aside0.mk hB
        clear hit hB
        go_wp2
        go_ret2
        exact ⟨ret_two (by rw [← HP.out]; have hz : a0.size = 0 := (by omega); simp [oneOf, hz]), HB.out⟩
    · by_cases hp : (Utf8.decode a0 0).2 < a0.size
      · have hnx : ∀ ty, (Instr.next (.pointer (some ⟨w.heap.size, 0, none⟩)) true ty).run Tryd.prog wr = _ := fun ty => Lib.run_next_any_at wr w.heap.size a0 _ ty hit hp
        have hwd := rune_w_pos a0 0
        have hb2 := Lib.below_iterAt hB (k := w.heap.size) (Nat.le_refl _) a0 ((Utf8.decode a0 0).2 + (Utf8.decode a0 (Utf8.decode a0 0).2).2)
        have HB2 := Aside0.mk hb2
        clear hit hb2 hB
        have h1 : 0 < ((Utf8.decode a0 0).2 : Int) := by omega
        go_wp2
        go_ret2
        exact ⟨ret_two (by rw [← HP.out]; unfold oneOf; rw [if_neg (by omega)]), HB2.out⟩
      · have hnx : ∀ ty, (Instr.next (.pointer (some ⟨w.heap.size, 0, none⟩)) true ty).run Tryd.prog wr = _ := fun ty => Lib.run_next_end_at wr w.heap.size a0 _ ty hit hp
        have HB := Aside0.mk hB
        clear hit hB
        have hwl := rune_w_le a0 0 h0
        go_wp2
        go_ret2
        exact ⟨ret_two (by rw [← HP.out]; unfold oneOf; rw [if_neg (by omega)]; simp; omega), HB.out⟩
end Go.Proofs.YthijdjpipjbkbaaDoor.H
end
section
namespace Go.Proofs.YthijdjpipjbkbaaDoor.H
open Go.RowKit Go.Proofs.YthijdjpipjbkbaaDoorW.PrintWords Go.Proofs.YthijdjpipjbkbaaDoorW.PrintLast Go.Proofs.YthijdjpipjbkbaaDoorW.PrintMore
attribute [local go_sem] max2_int min2_int max_two min_two max_three min_three max_four min_four
set_option linter.unusedVariables false
set_option linter.unusedSimpArgs false
def arboristref01_Runes.l0 : Nat → ByteArray → List (S65) → Int → Option ((List (S65)))
 | 0, _, _, _ => none
 | k + 1, x0, x3, x4 => if x4 < (x0.size : Int) then (if 0 ≤ x4 then (if x4 ≤ (x0.size : Int) then ((arboristref01_one.f (x0.extract (x4 : Int).toNat x0.size)).bind fun bt200 => (if x3.length < 5864062014805 then (arboristref01_Runes.l0 k x0 (x3 ++ [(⟨bt200.1, x4, bt200.2⟩ : S65)]) (wrap64 (x4 + bt200.2))) else (none))) else (none)) else (none)) else (some x3)
def arboristref01_Runes.f (k : Nat) (a0 : ByteArray) : Option ((List (S65))) := arboristref01_Runes.l0 k a0 ([] : List (S65)) 0
theorem arboristref01_Runes.mono_l : ∀ k, (∀ y0 y1 y2, LeO (arboristref01_Runes.l0 k y0 y1 y2) (arboristref01_Runes.l0 (k + 1) y0 y1 y2))
 | 0 => fun _ _ _ r h => by simp [arboristref01_Runes.l0] at h
 | k + 1 => by
  have ih0 := arboristref01_Runes.mono_l k
  ·intro y0 y1 y2
   unfold arboristref01_Runes.l0
   repeat' first
   | (with_reducible exact ih0 _ _ _)
   | (with_reducible exact LeO.refl _)
   | (with_reducible exact LeO.none _)
   | (with_reducible refine LeO.ite ?_ ?_)
   | (with_reducible refine LeO.bind ?_ (fun _ => ?_))
   | exact ih0 _ _ _
   | exact LeO.none _
   | refine LeO.ite ?_ ?_
   | refine LeO.bind ?_ (fun _ => ?_)
theorem arboristref01_Runes.mono : ∀ a0 k, LeO (arboristref01_Runes.f k a0) (arboristref01_Runes.f (k + 1) a0) := by
 (intro a0 k); (have ih0 := arboristref01_Runes.mono_l k); (unfold arboristref01_Runes.f)
 repeat' first
   | (with_reducible exact ih0 _ _ _)
   | (with_reducible exact LeO.refl _)
   | (with_reducible exact LeO.none _)
   | (with_reducible refine LeO.ite ?_ ?_)
   | (with_reducible refine LeO.bind ?_ (fun _ => ?_))
   | exact ih0 _ _ _
   | exact LeO.none _
   | refine LeO.ite ?_ ?_
   | refine LeO.bind ?_ (fun _ => ?_)
set_option maxHeartbeats 8000000 in
set_option maxRecDepth 100000 in
theorem arboristref01_Runes.calls (k : Nat) (a0 : ByteArray) (r : List (S65)) (w : World) (h : arboristref01_Runes.f k a0 = some r) :
  Calls Tryd.prog 62 #[.string a0] w fun e w' => ∃ v0_ : Value, e = .returned (v0_) ∧ Kd.R k65 65 w' w.heap.size (fun _ => True) v0_ r ∧ Below w.heap.size w w' := by
 (have hu65 := Tryd.underlying65); (have HB := qM (Below.refl w.heap.size w)); (have H : (arboristref01_Runes.l0 k a0 ([] : List (S65)) 0) = some r := h); clear h; (have H' := qM H); clear H; (go_enter Tryd.func62, Tryd.ntmps62); go_wp2; (go_loopg [3, 4] k (fun kq v3 v4 w' => ∃ (x3_1 : List (S65)) (x4_1 : Int), v4 = .int .i64 x4_1 ∧ Aside0 (arboristref01_Runes.l0 kq a0 x3_1 x4_1 = some r) ∧ Aside0 (kq ≤ k) ∧ Aside0 (Kd.R k65 65 w' w.heap.size (fun _ => True) v3 x3_1) ∧ Aside0 (Below w.heap.size w w')))
 case atStart => exact ⟨(([] : List (S65))), (0), qV, H', ⟨Nat.le_refl _⟩, ⟨by first | exact Kd.R_nil _ _ _ _ _ | exact Kd.N_nil _ _ _ _ _ | exact Kd.V_nil _ _ _ _ _ | exact Kd.Q_nil _ _ _ _ _ | exact Kd.S_nil _ _ _ _ _⟩, ⟨qF⟩⟩
 case round =>
  (clear H'); (obtain ⟨x3_1, x4_1, rfl, HA, HK1, HO_3, HB⟩ := hrel)
  cases gk with
  | zero => exact absurd HA.out (by simp [arboristref01_Runes.l0])
  | succ k1 =>
   (have H := HA.out); clear HA; (simp only [arboristref01_Runes.l0] at H); (by_cases c2 : x4_1 < (a0.size : Int))
   ·rw [if_pos c2] at H
    (have c2b0 : decide (x4_1 < (a0.size : Int)) = true := decide_eq_true c2); clear c2; (by_cases c3 : 0 ≤ x4_1)
    ·rw [if_pos c3] at H
     (have c3b0 := eq_true c3); (have c3b1 : decide (0 ≤ x4_1) = true := decide_eq_true c3); clear c3; (by_cases c4 : x4_1 ≤ (a0.size : Int))
     ·rw [if_pos c4] at H
      (have c4b0 := eq_true c4); (have c4b1 : decide (x4_1 ≤ (a0.size : Int)) = true := decide_eq_true c4); clear c4; (replace H := Option.bind_eq_some_iff.mp H); (obtain ⟨⟨t200, t201⟩, A50, H⟩ := H); (replace H : (if x3_1.length < 5864062014805 then (arboristref01_Runes.l0 k1 a0 (x3_1 ++ [(⟨t200, x4_1, t201⟩ : S65)]) (wrap64 (x4_1 + t201))) else (none)) = some r := H); (have A5 := qM A50); clear A50; (by_cases c6 : x3_1.length < 5864062014805)
      ·rw [if_pos c6] at H
       (have LMc6 := qM c6); clear c6; (obtain ⟨y202, hy202⟩ : ∃ y_ : List (S65), y_ = (x3_1 ++ [(⟨t200, x4_1, t201⟩ : S65)]) := ⟨_, rfl⟩); (replace H : (arboristref01_Runes.l0 k1 a0 y202 (wrap64 (x4_1 + t201))) = some r := by first | (rw [hy202]; with_reducible exact H) | (have H2_ := (Option.bind_some _ _).symm.trans H; rw [hy202]; with_reducible exact H2_) | (have H2_ := (Option.bind_some _ _).symm.trans H; with_reducible exact H2_) | with_reducible exact H | (rw [hy202]; exact H) | exact H); (have Ny202 := qM hy202); clear hy202; (have H' := qM H); clear H
       go_wp2_with (first | ((with_reducible refine gate_callee (f := 57) rfl ?_); refine goesL_ (some 15) rfl rfl Tryd.func57 (by kernel_rfl) rfl #[.string (a0.extract (x4_1 : Int).toNat a0.size)] rfl (by (try simp only [List.map_toArray, List.map_cons, List.map_nil]); first | done | rfl | (simp only [List.length_drop, List.length_take]; rfl)) ?_; (with_reducible refine (arboristref01_one.calls (a0.extract (x4_1 : Int).toNat a0.size) t200 t201 _ A5.out).mono ?_); rintro e w7 ⟨rfl, hb⟩; refine ⟨_, rfl, ?_⟩; have n0_ := qM (Kd.R_below (by (with_reducible repeat (first | apply Kd.R_alloc | apply Kd.R_drewN | apply Kd.R_drew)); exact HO_3.out) hb); have n1_ := qM (qP qF hb); clear HO_3; clear HB; have HO_3 := n0_; have HB := n1_; clear n0_ n1_; (try clear hb); (try clear hb2); (try clear hk); (try clear hi)) | ((with_reducible refine gate_builtin (b := .append) (xs := #[.tmp 18, .tmp 23]) rfl ?_); at_builtin; refine Kd.R_append k65 (w0 := w) w.heap.size rfl (.tmp 18) (.tmp 23) 62 65 (.agg #[(.int .i32 0), (.int .i64 0), (.int .i64 0)]) 24 rfl Tryd.underlying62 info65 rfl (by decide) (by omega) u3 x3_1 (⟨t200, x4_1, t201⟩ : S65) [.int .i32 t200, .int .i64 x4_1, .int .i64 t201] (fun _ => True) (fun _ => False) rfl rfl ?aP (fun _ hk => hk.elim) ?aF ?aO ?aB ?aS ?aL ?_; (case aP => exact k65_mkM _ _ _ (⟨t200, x4_1, t201⟩ : S65)); (case aB => exact qF); (case aF => exact (fun _ _ => trivial)); (case aO => exact (by (with_reducible repeat (first | apply Kd.R_alloc | apply Kd.R_drewN | apply Kd.R_drew)); exact HO_3.out)); (case aS => exact (qZ qF)); (case aL => have := LMc6.out; omega); intro v203 w8 ho hb hg hat; rw [← Ny202.out] at ho; have n0_ := qM (hb); have n1_ := qM (ho); clear HB; clear HO_3; have HB := n0_; have HO204 := n1_; clear n0_ n1_; clear ho hb hg hat))
       go_roundg k1
       case measure => have := HK1.out; omega
       case rel => exact ⟨(y202), (wrap64 (x4_1 + t201)), qV, H', ⟨by have := HK1.out; omega⟩, ⟨by (with_reducible repeat (first | apply Kd.R_alloc | apply Kd.R_drewN | apply Kd.R_drew)); exact HO204.out⟩, ⟨qF⟩⟩
      ·rw [if_neg c6] at H
       exact absurd H (by simp)
     ·rw [if_neg c4] at H
      exact absurd H (by simp)
    ·rw [if_neg c3] at H
     exact absurd H (by simp)
   ·rw [if_neg c2] at H
    (have c2b0 : decide (x4_1 < (a0.size : Int)) = false := decide_eq_false c2); clear c2; (obtain rfl := Option.some.inj H); go_wp2; (go_ret); (exact ⟨_, qE, by (with_reducible repeat (first | apply Kd.R_alloc | apply Kd.R_drewN | apply Kd.R_drew)); exact HO_3.out, qF⟩)
end Go.Proofs.YthijdjpipjbkbaaDoor.H
end
section
namespace Go.Proofs.YthijdjpipjbkbaaDoor.H
open Go.RowKit Go.Proofs.YthijdjpipjbkbaaDoorW.PrintWords Go.Proofs.YthijdjpipjbkbaaDoorW.PrintLast Go.Proofs.YthijdjpipjbkbaaDoorW.PrintMore
set_option linter.unusedVariables false
def Ends {α : Type} (g : Nat → Option α) (v : α) : Prop := ∃ k0, ∀ k, k0 ≤ k → g k = some v
theorem Ends.const {α : Type} (v : α) : Ends (fun _ => some v) v := ⟨0, fun _ _ => rfl⟩
theorem Ends.of_mono {α : Type} {g : Nat → Option α} {v : α} (hm : ∀ k, LeO (g k) (g (k + 1))) (h : ∃ k, g k = some v) : Ends g v := by
  obtain ⟨k, hk⟩ := h
  refine ⟨k, fun m hmk => ?_⟩
  induction m with
  | zero => obtain rfl : k = 0 := by omega
            exact hk
  | succ m ih =>
    rcases Nat.lt_or_ge k (m + 1) with q | q
    · exact hm m v (ih (by omega))
    · obtain rfl : k = m + 1 := by omega
      exact hk
theorem Ends.step {α : Type} {g h : Nat → Option α} {v : α} (e : ∀ k, g (k + 1) = h k) (hh : Ends h v) : Ends g v := by
  obtain ⟨k0, hk⟩ := hh
  refine ⟨k0 + 1, fun k hk1 => ?_⟩
  obtain ⟨m, rfl⟩ : ∃ m, k = m + 1 := ⟨k - 1, by omega⟩
  rw [e]; exact hk m (by omega)
theorem Ends.bind {α β : Type} {f : Nat → Option α} {g : Nat → α → Option β} {a : α} {v : β} (hf : Ends f a) (hg : Ends (fun k => g k a) v) : Ends (fun k => (f k).bind (g k)) v := by
  obtain ⟨k1, h1⟩ := hf
  obtain ⟨k2, h2⟩ := hg
  refine ⟨k1 + k2, fun k hk => ?_⟩
  show (f k).bind (g k) = some v
  rw [h1 k (by omega)]; exact h2 k (by omega)
theorem Ends.bind0 {α β : Type} {f : Option α} {g : Nat → α → Option β} {a : α} {v : β} (hf : f = some a) (hg : Ends (fun k => g k a) v) : Ends (fun k => f.bind (g k)) v := by
  subst hf; exact hg
theorem Ends.pos {α : Type} {c : Prop} {d : Decidable c} {f g : Nat → Option α} {v : α} (hc : c) (h : Ends f v) : Ends (fun k => @ite _ c d (f k) (g k)) v := by
  obtain ⟨k0, hk⟩ := h
  exact ⟨k0, fun k hk1 => by simp only [if_pos hc]; exact hk k hk1⟩
theorem Ends.neg {α : Type} {c : Prop} {d : Decidable c} {f g : Nat → Option α} {v : α} (hc : ¬ c) (h : Ends g v) : Ends (fun k => @ite _ c d (f k) (g k)) v := by
  obtain ⟨k0, hk⟩ := h
  exact ⟨k0, fun k hk1 => by simp only [if_neg hc]; exact hk k hk1⟩
theorem Ends.get {α : Type} {g : Nat → Option α} {v : α} (h : Ends g v) : ∃ k, g k = some v := by
  obtain ⟨k0, hk⟩ := h
  exact ⟨k0, hk k0 (Nat.le_refl _)⟩
theorem Ends.cast {α : Type} {g h : Nat → Option α} {v : α} (hh : Ends h v) (e : ∀ k, g k = h k) : Ends g v := by
  obtain ⟨k0, hk⟩ := hh
  exact ⟨k0, fun k hk1 => (e k).trans (hk k hk1)⟩
theorem Ends.val {α : Type} {g : Nat → Option α} {v w : α} (h : Ends g v) (e : v = w) : Ends g w := e ▸ h
end Go.Proofs.YthijdjpipjbkbaaDoor.H
end
section
namespace Go.Proofs.YthijdjpipjbkbaaDoor.H
open Go.RowKit Go.Proofs.YthijdjpipjbkbaaDoorW.PrintWords Go.Proofs.YthijdjpipjbkbaaDoorW.PrintLast Go.Proofs.YthijdjpipjbkbaaDoorW.PrintMore
attribute [local go_sem] max2_int min2_int max_two min_two max_three min_three max_four min_four
set_option linter.unusedVariables false
set_option linter.unusedSimpArgs false
def arboristref01_Hex.l0 : Nat → Int → Int → ByteArray → Option (ByteArray)
 | 0, _, _, _ => none
 | k + 1, x0, x1, x5 => if x0 > 0 then (if 0 ≤ (Int.tmod x0 16) then (if (Int.tmod x0 16) ≤ (wrap64 ((Int.tmod x0 16) + 1)) then (if (wrap64 ((Int.tmod x0 16) + 1)) ≤ 16 then (if ((⟨#[48, 49, 50, 51, 52, 53, 54, 55, 56, 57, 97, 98, 99, 100, 101, 102]⟩ : ByteArray).extract ((Int.tmod x0 16) : Int).toNat ((wrap64 ((Int.tmod x0 16) + 1)) : Int).toNat).size + x5.size ≤ 9223372036854775807 then (arboristref01_Hex.l0 k (wrap64 (Int.tdiv x0 16)) x1 (((⟨#[48, 49, 50, 51, 52, 53, 54, 55, 56, 57, 97, 98, 99, 100, 101, 102]⟩ : ByteArray).extract ((Int.tmod x0 16) : Int).toNat ((wrap64 ((Int.tmod x0 16) + 1)) : Int).toNat) ++ x5)) else (none)) else (none)) else (none)) else (none)) else (if (x5.size : Int) < x1 then (if 0 ≤ (Int.tmod x0 16) then (if (Int.tmod x0 16) ≤ (wrap64 ((Int.tmod x0 16) + 1)) then (if (wrap64 ((Int.tmod x0 16) + 1)) ≤ 16 then (if ((⟨#[48, 49, 50, 51, 52, 53, 54, 55, 56, 57, 97, 98, 99, 100, 101, 102]⟩ : ByteArray).extract ((Int.tmod x0 16) : Int).toNat ((wrap64 ((Int.tmod x0 16) + 1)) : Int).toNat).size + x5.size ≤ 9223372036854775807 then (arboristref01_Hex.l0 k (wrap64 (Int.tdiv x0 16)) x1 (((⟨#[48, 49, 50, 51, 52, 53, 54, 55, 56, 57, 97, 98, 99, 100, 101, 102]⟩ : ByteArray).extract ((Int.tmod x0 16) : Int).toNat ((wrap64 ((Int.tmod x0 16) + 1)) : Int).toNat) ++ x5)) else (none)) else (none)) else (none)) else (none)) else (some x5))
def arboristref01_Hex.f (k : Nat) (a0 : Int) (a1 : Int) : Option (ByteArray) := arboristref01_Hex.l0 k a0 a1 (⟨#[]⟩ : ByteArray)
theorem arboristref01_Hex.mono_l : ∀ k, (∀ y0 y1 y2, LeO (arboristref01_Hex.l0 k y0 y1 y2) (arboristref01_Hex.l0 (k + 1) y0 y1 y2))
 | 0 => fun _ _ _ r h => by simp [arboristref01_Hex.l0] at h
 | k + 1 => by
  have ih0 := arboristref01_Hex.mono_l k
  ·intro y0 y1 y2
   unfold arboristref01_Hex.l0
   repeat' first
   | (with_reducible exact ih0 _ _ _)
   | (with_reducible exact LeO.refl _)
   | (with_reducible exact LeO.none _)
   | (with_reducible refine LeO.ite ?_ ?_)
   | (with_reducible refine LeO.bind ?_ (fun _ => ?_))
   | exact ih0 _ _ _
   | exact LeO.none _
   | refine LeO.ite ?_ ?_
   | refine LeO.bind ?_ (fun _ => ?_)
theorem arboristref01_Hex.mono : ∀ a0 a1 k, LeO (arboristref01_Hex.f k a0 a1) (arboristref01_Hex.f (k + 1) a0 a1) := by
 (intro a0 a1 k); (have ih0 := arboristref01_Hex.mono_l k); (unfold arboristref01_Hex.f)
 repeat' first
   | (with_reducible exact ih0 _ _ _)
   | (with_reducible exact LeO.refl _)
   | (with_reducible exact LeO.none _)
   | (with_reducible refine LeO.ite ?_ ?_)
   | (with_reducible refine LeO.bind ?_ (fun _ => ?_))
   | exact ih0 _ _ _
   | exact LeO.none _
   | refine LeO.ite ?_ ?_
   | refine LeO.bind ?_ (fun _ => ?_)
set_option maxHeartbeats 8000000 in
set_option maxRecDepth 100000 in
theorem arboristref01_Hex.calls (k : Nat) (a0 : Int) (a1 : Int) (r : ByteArray) (w : World) (h : arboristref01_Hex.f k a0 a1 = some r) :
  Calls Tryd.prog 63 #[.int .i64 a0, .int .i64 a1] w fun e w' => e = .returned (.string r) ∧ Drawn0 w w' := by
 (have H : (arboristref01_Hex.l0 k a0 a1 (⟨#[]⟩ : ByteArray)) = some r := h); clear h; (have H' := qM H); clear H; (go_enter Tryd.func63, Tryd.ntmps63); go_wp2; (go_loopg [0, 5] k (fun kq v0 v5 w' => ∃ (x0_1 : Int) (x5_1 : ByteArray), v0 = .int .i64 x0_1 ∧ v5 = .string x5_1 ∧ Aside0 (arboristref01_Hex.l0 kq x0_1 a1 x5_1 = some r) ∧ Aside0 (kq ≤ k) ∧ Drawn0 w w'))
 case atStart => exact ⟨(a0), ((⟨#[]⟩ : ByteArray)), qV, qV, H', ⟨Nat.le_refl _⟩, by repeat (first | exact Drawn0.refl _ | apply Drawn0.step)⟩
 case round =>
  (clear H'); (try clear p2); (obtain ⟨x0_1, x5_1, rfl, rfl, HA, HK1, ⟨m1, rfl⟩⟩ := hrel)
  cases gk with
  | zero => exact absurd HA.out (by simp [arboristref01_Hex.l0])
  | succ k1 =>
   (have H := HA.out); clear HA; (simp only [arboristref01_Hex.l0] at H); (by_cases c3 : x0_1 > 0)
   ·rw [if_pos c3] at H
    (have c3b0 : decide (0 < x0_1) = true := decide_eq_true c3); clear c3; (obtain ⟨ji4, hji4⟩ : ∃ j_ : Int, (Int.tmod x0_1 16) = j_ := ⟨_, rfl⟩); (replace H : (if 0 ≤ (ji4) then (if (ji4) ≤ (wrap64 ((ji4) + 1)) then (if (wrap64 ((ji4) + 1)) ≤ 16 then (if ((⟨#[48, 49, 50, 51, 52, 53, 54, 55, 56, 57, 97, 98, 99, 100, 101, 102]⟩ : ByteArray).extract ((ji4) : Int).toNat ((wrap64 ((ji4) + 1)) : Int).toNat).size + x5_1.size ≤ 9223372036854775807 then (arboristref01_Hex.l0 k1 (wrap64 (Int.tdiv x0_1 16)) a1 (((⟨#[48, 49, 50, 51, 52, 53, 54, 55, 56, 57, 97, 98, 99, 100, 101, 102]⟩ : ByteArray).extract ((ji4) : Int).toNat ((wrap64 ((ji4) + 1)) : Int).toNat) ++ x5_1)) else (none)) else (none)) else (none)) else (none)) = some r := by first | (rw [hji4] at H; exact H) | (simp only [hji4] at H ⊢; exact H)); (by_cases c5 : 0 ≤ (ji4))
    ·rw [if_pos c5] at H
     (have c5b0 := eq_true c5); (have c5b1 : decide (0 ≤ (ji4)) = true := decide_eq_true c5); clear c5; (by_cases c6 : (ji4) ≤ (wrap64 ((ji4) + 1)))
     ·rw [if_pos c6] at H
      (have c6b0 := eq_true c6); (have c6b1 : decide ((ji4) ≤ (wrap64 ((ji4) + 1))) = true := decide_eq_true c6); (by_cases c7 : (wrap64 ((ji4) + 1)) ≤ 16)
      ·rw [if_pos c7] at H
       (have c7b0 := eq_true c7); (have c7b1 : decide ((wrap64 ((ji4) + 1)) ≤ 16) = true := decide_eq_true c7); (by_cases c8 : ((⟨#[48, 49, 50, 51, 52, 53, 54, 55, 56, 57, 97, 98, 99, 100, 101, 102]⟩ : ByteArray).extract ((ji4) : Int).toNat ((wrap64 ((ji4) + 1)) : Int).toNat).size + x5_1.size ≤ 9223372036854775807)
       ·rw [if_pos c8] at H
        (have c8b0 := eq_true c8); (have c8b1 : decide (((⟨#[48, 49, 50, 51, 52, 53, 54, 55, 56, 57, 97, 98, 99, 100, 101, 102]⟩ : ByteArray).extract ((ji4) : Int).toNat ((wrap64 ((ji4) + 1)) : Int).toNat).size + x5_1.size ≤ 9223372036854775807) = true := decide_eq_true c8); (try have c8b2 : (9223372036854775807 < ((⟨#[48, 49, 50, 51, 52, 53, 54, 55, 56, 57, 97, 98, 99, 100, 101, 102]⟩ : ByteArray).extract ((ji4) : Int).toNat ((wrap64 ((ji4) + 1)) : Int).toNat).size + x5_1.size) = False := eq_false (Nat.not_lt.2 c8)); (have H' := qM H); clear H; go_wp2; (go_roundg k1)
        case measure => have := HK1.out; omega
        case rel => exact ⟨(wrap64 (Int.tdiv x0_1 16)), (((⟨#[48, 49, 50, 51, 52, 53, 54, 55, 56, 57, 97, 98, 99, 100, 101, 102]⟩ : ByteArray).extract ((ji4) : Int).toNat ((wrap64 ((ji4) + 1)) : Int).toNat) ++ x5_1), qV, (by first | rfl | (simp; done) | (simp only [← hji4] <;> (first | rfl | simp)) | (simp [*]; done)), H', ⟨by have := HK1.out; omega⟩, by repeat (first | exact Drawn0.refl _ | apply Drawn0.step)⟩
       ·rw [if_neg c8] at H
        exact absurd H (by simp)
      ·rw [if_neg c7] at H
       exact absurd H (by simp)
     ·rw [if_neg c6] at H
      exact absurd H (by simp)
    ·rw [if_neg c5] at H
     exact absurd H (by simp)
   ·rw [if_neg c3] at H
    (have c3b0 : decide (0 < x0_1) = false := decide_eq_false c3); clear c3; (by_cases c9 : (x5_1.size : Int) < a1)
    ·rw [if_pos c9] at H
     (have c9b0 : decide ((x5_1.size : Int) < a1) = true := decide_eq_true c9); clear c9; (obtain ⟨ji10, hji10⟩ : ∃ j_ : Int, (Int.tmod x0_1 16) = j_ := ⟨_, rfl⟩); (replace H : (if 0 ≤ (ji10) then (if (ji10) ≤ (wrap64 ((ji10) + 1)) then (if (wrap64 ((ji10) + 1)) ≤ 16 then (if ((⟨#[48, 49, 50, 51, 52, 53, 54, 55, 56, 57, 97, 98, 99, 100, 101, 102]⟩ : ByteArray).extract ((ji10) : Int).toNat ((wrap64 ((ji10) + 1)) : Int).toNat).size + x5_1.size ≤ 9223372036854775807 then (arboristref01_Hex.l0 k1 (wrap64 (Int.tdiv x0_1 16)) a1 (((⟨#[48, 49, 50, 51, 52, 53, 54, 55, 56, 57, 97, 98, 99, 100, 101, 102]⟩ : ByteArray).extract ((ji10) : Int).toNat ((wrap64 ((ji10) + 1)) : Int).toNat) ++ x5_1)) else (none)) else (none)) else (none)) else (none)) = some r := by first | (rw [hji10] at H; exact H) | (simp only [hji10] at H ⊢; exact H)); (by_cases c11 : 0 ≤ (ji10))
     ·rw [if_pos c11] at H
      (have c11b0 := eq_true c11); (have c11b1 : decide (0 ≤ (ji10)) = true := decide_eq_true c11); clear c11; (by_cases c12 : (ji10) ≤ (wrap64 ((ji10) + 1)))
      ·rw [if_pos c12] at H
       (have c12b0 := eq_true c12); (have c12b1 : decide ((ji10) ≤ (wrap64 ((ji10) + 1))) = true := decide_eq_true c12); (by_cases c13 : (wrap64 ((ji10) + 1)) ≤ 16)
       ·rw [if_pos c13] at H
        (have c13b0 := eq_true c13); (have c13b1 : decide ((wrap64 ((ji10) + 1)) ≤ 16) = true := decide_eq_true c13); (by_cases c14 : ((⟨#[48, 49, 50, 51, 52, 53, 54, 55, 56, 57, 97, 98, 99, 100, 101, 102]⟩ : ByteArray).extract ((ji10) : Int).toNat ((wrap64 ((ji10) + 1)) : Int).toNat).size + x5_1.size ≤ 9223372036854775807)
        ·rw [if_pos c14] at H
         (have c14b0 := eq_true c14); (have c14b1 : decide (((⟨#[48, 49, 50, 51, 52, 53, 54, 55, 56, 57, 97, 98, 99, 100, 101, 102]⟩ : ByteArray).extract ((ji10) : Int).toNat ((wrap64 ((ji10) + 1)) : Int).toNat).size + x5_1.size ≤ 9223372036854775807) = true := decide_eq_true c14); (try have c14b2 : (9223372036854775807 < ((⟨#[48, 49, 50, 51, 52, 53, 54, 55, 56, 57, 97, 98, 99, 100, 101, 102]⟩ : ByteArray).extract ((ji10) : Int).toNat ((wrap64 ((ji10) + 1)) : Int).toNat).size + x5_1.size) = False := eq_false (Nat.not_lt.2 c14)); (have H' := qM H); clear H; go_wp2; (go_roundg k1)
         case measure => have := HK1.out; omega
         case rel => exact ⟨(wrap64 (Int.tdiv x0_1 16)), (((⟨#[48, 49, 50, 51, 52, 53, 54, 55, 56, 57, 97, 98, 99, 100, 101, 102]⟩ : ByteArray).extract ((ji10) : Int).toNat ((wrap64 ((ji10) + 1)) : Int).toNat) ++ x5_1), qV, (by first | rfl | (simp; done) | (simp only [← hji10] <;> (first | rfl | simp)) | (simp [*]; done)), H', ⟨by have := HK1.out; omega⟩, by repeat (first | exact Drawn0.refl _ | apply Drawn0.step)⟩
        ·rw [if_neg c14] at H
         exact absurd H (by simp)
       ·rw [if_neg c13] at H
        exact absurd H (by simp)
      ·rw [if_neg c12] at H
       exact absurd H (by simp)
     ·rw [if_neg c11] at H
      exact absurd H (by simp)
    ·rw [if_neg c9] at H
     (have c9b0 : decide ((x5_1.size : Int) < a1) = false := decide_eq_false c9); clear c9; (obtain rfl := Option.some.inj H); go_wp2; (go_ret); (exact ⟨qV, by repeat (first | exact Drawn0.refl _ | apply Drawn0.step)⟩)
def arboristref01_Invalid.f (a0_0 : Int) (a0_1 : Int) (a0_2 : Int) : Option (Bool) := if a0_0 = 65533 then (some (a0_2 == 1)) else (some false)
set_option maxHeartbeats 8000000 in
set_option maxRecDepth 100000 in
theorem arboristref01_Invalid.calls (a0_0 : Int) (a0_1 : Int) (a0_2 : Int) (r : Bool) (w : World) (h : arboristref01_Invalid.f a0_0 a0_1 a0_2 = some r) :
  Calls Tryd.prog 59 #[.agg #[.int .i32 a0_0, .int .i64 a0_1, .int .i64 a0_2]] w fun e w' => e = .returned (.bool r) ∧ Below w.heap.size w w' := by
 (have hu65 := Tryd.underlying65); (have HB := qM (Below.refl w.heap.size w)); (have H : (if a0_0 = 65533 then (some (a0_2 == 1)) else (some false)) = some r := h); clear h; (by_cases c2 : a0_0 = 65533)
 ·rw [if_pos c2] at H
  (have c2b0 : (a0_0 == 65533) = true := beq_iff_eq.mpr c2); (have c2b1 : (a0_0 != 65533) = false := bne_eq_false_iff_eq.mpr c2); clear c2; (obtain rfl := Option.some.inj H); (go_enter Tryd.func59, Tryd.ntmps59)
  go_wp2_with (first | ((with_reducible refine gate_dst (N := 1) rfl ?_); refine box_event ?hg (N := 1) ?hd (cs := #[.int .i32 a0_0, .int .i64 a0_1, .int .i64 a0_2]) (t := 65) ?hr ?_; (case hd => rfl); (case hg => rfl); (case hr => first | (go_simp; done) | (go_simp; rfl)); intro gb141 hg w3 hbox hb; have n0_ := qM (qP qF hb); have n1_ := qM (hbox); have n2_ := qM ((by rw [hg]; exact (qZ qF) : w.heap.size ≤ gb141)); have n3_ := qM ((by rw [hg]; exact (qZ qF) : w.heap.size ≤ gb141)); clear HB; have HB := n0_; have BK141 := n1_; have GW141 := n2_; have GE141 := n3_; clear n0_ n1_ n2_ n3_; clear hb hbox hg; obtain ⟨hcz4_0, hcz4_1, hcz4_2, hfz4_0, hfz4_1, hfz4_2⟩ := bx3 BK141.out))
  (go_ret); (exact ⟨qE, qF⟩)
 ·rw [if_neg c2] at H
  (have c2b0 : (a0_0 == 65533) = false := beq_eq_false_iff_ne.mpr c2); (have c2b1 : (a0_0 != 65533) = true := bne_iff_ne.mpr c2); (obtain rfl := Option.some.inj H); (go_enter Tryd.func59, Tryd.ntmps59)
  go_wp2_with (first | ((with_reducible refine gate_dst (N := 1) rfl ?_); refine box_event ?hg (N := 1) ?hd (cs := #[.int .i32 a0_0, .int .i64 a0_1, .int .i64 a0_2]) (t := 65) ?hr ?_; (case hd => rfl); (case hg => rfl); (case hr => first | (go_simp; done) | (go_simp; rfl)); intro gb141 hg w5 hbox hb; have n0_ := qM (qP qF hb); have n1_ := qM (hbox); have n2_ := qM ((by rw [hg]; exact (qZ qF) : w.heap.size ≤ gb141)); have n3_ := qM ((by rw [hg]; exact (qZ qF) : w.heap.size ≤ gb141)); clear HB; have HB := n0_; have BK141 := n1_; have GW141 := n2_; have GE141 := n3_; clear n0_ n1_ n2_ n3_; clear hb hbox hg; obtain ⟨hcz6_0, hcz6_1, hcz6_2, hfz6_0, hfz6_1, hfz6_2⟩ := bx3 BK141.out))
  (go_ret); (exact ⟨qE, qF⟩)
mutual
def arboristref01_Quote.l0 : Nat → ByteArray → ByteArray → List (S65) → Int → Option (ByteArray)
 | 0, _, _, _, _ => none
 | k + 1, x0, x3, x4, x5 => if x5 < (x4.length : Int) then (if 0 ≤ x5 then ((arboristref01_Invalid.f ((rd_T65 x4 x5).f0) ((rd_T65 x4 x5).f1) ((rd_T65 x4 x5).f2)).bind fun t210 => (if t210 = true then (if 0 ≤ ((rd_T65 x4 x5).f1) then (if ((rd_T65 x4 x5).f1) < (x0.size : Int) then ((arboristref01_Hex.f k (wrap64 (bt x0 ((rd_T65 x4 x5).f1))) 2).bind fun t212 => (if 3 + t212.size ≤ 9223372036854775807 then (if ((⟨#[92, 120, 123]⟩ : ByteArray) ++ t212).size + 1 ≤ 9223372036854775807 then (if x3.size + (((⟨#[92, 120, 123]⟩ : ByteArray) ++ t212) ++ (⟨#[125]⟩ : ByteArray)).size ≤ 9223372036854775807 then (arboristref01_Quote.l0 k x0 (x3 ++ (((⟨#[92, 120, 123]⟩ : ByteArray) ++ t212) ++ (⟨#[125]⟩ : ByteArray))) x4 (wrap64 (x5 + 1))) else (none)) else (none)) else (none))) else (none)) else (none)) else (if ((rd_T65 x4 x5).f0) = 34 then (arboristref01_Quote.j1 k x0 x3 x4 x5 ((rd_T65 x4 x5).f0) true) else (arboristref01_Quote.j1 k x0 x3 x4 x5 ((rd_T65 x4 x5).f0) (((rd_T65 x4 x5).f0) == 92))))) else (none)) else (if x3.size + 1 ≤ 9223372036854775807 then (some (x3 ++ (⟨#[34]⟩ : ByteArray))) else (none))
def arboristref01_Quote.j1 : Nat → ByteArray → ByteArray → List (S65) → Int → Int → Bool → Option (ByteArray)
 | 0, _, _, _, _, _, _ => none
 | k + 1, x0, x3, x4, x5, x6, x46 => if x46 = true then (if 0 ≤ x5 then (if x5 < (x4.length : Int) then (if 0 ≤ ((rd_T65 x4 x5).f1) then (if ((rd_T65 x4 x5).f1) ≤ (wrap64 (((rd_T65 x4 x5).f1) + 1)) then (if (wrap64 (((rd_T65 x4 x5).f1) + 1)) ≤ (x0.size : Int) then (if 1 + (x0.extract (((rd_T65 x4 x5).f1) : Int).toNat ((wrap64 (((rd_T65 x4 x5).f1) + 1)) : Int).toNat).size ≤ 9223372036854775807 then (if x3.size + ((⟨#[92]⟩ : ByteArray) ++ (x0.extract (((rd_T65 x4 x5).f1) : Int).toNat ((wrap64 (((rd_T65 x4 x5).f1) + 1)) : Int).toNat)).size ≤ 9223372036854775807 then (arboristref01_Quote.l0 k x0 (x3 ++ ((⟨#[92]⟩ : ByteArray) ++ (x0.extract (((rd_T65 x4 x5).f1) : Int).toNat ((wrap64 (((rd_T65 x4 x5).f1) + 1)) : Int).toNat))) x4 (wrap64 (x5 + 1))) else (none)) else (none)) else (none)) else (none)) else (none)) else (none)) else (none)) else (if x6 = 10 then (if x3.size + 2 ≤ 9223372036854775807 then (arboristref01_Quote.l0 k x0 (x3 ++ (⟨#[92, 110]⟩ : ByteArray)) x4 (wrap64 (x5 + 1))) else (none)) else (if x6 = 13 then (if x3.size + 2 ≤ 9223372036854775807 then (arboristref01_Quote.l0 k x0 (x3 ++ (⟨#[92, 114]⟩ : ByteArray)) x4 (wrap64 (x5 + 1))) else (none)) else (if x6 = 9 then (if x3.size + 2 ≤ 9223372036854775807 then (arboristref01_Quote.l0 k x0 (x3 ++ (⟨#[92, 116]⟩ : ByteArray)) x4 (wrap64 (x5 + 1))) else (none)) else (if x6 ≥ 32 then (if x6 ≤ 126 then (if 0 ≤ x5 then (if x5 < (x4.length : Int) then (if 0 ≤ ((rd_T65 x4 x5).f1) then (if ((rd_T65 x4 x5).f1) ≤ (wrap64 (((rd_T65 x4 x5).f1) + 1)) then (if (wrap64 (((rd_T65 x4 x5).f1) + 1)) ≤ (x0.size : Int) then (if x3.size + (x0.extract (((rd_T65 x4 x5).f1) : Int).toNat ((wrap64 (((rd_T65 x4 x5).f1) + 1)) : Int).toNat).size ≤ 9223372036854775807 then (arboristref01_Quote.l0 k x0 (x3 ++ (x0.extract (((rd_T65 x4 x5).f1) : Int).toNat ((wrap64 (((rd_T65 x4 x5).f1) + 1)) : Int).toNat)) x4 (wrap64 (x5 + 1))) else (none)) else (none)) else (none)) else (none)) else (none)) else (none)) else ((arboristref01_Hex.f k (wrap64 (x6)) 1).bind fun t217 => (if 3 + t217.size ≤ 9223372036854775807 then (if ((⟨#[92, 117, 123]⟩ : ByteArray) ++ t217).size + 1 ≤ 9223372036854775807 then (if x3.size + (((⟨#[92, 117, 123]⟩ : ByteArray) ++ t217) ++ (⟨#[125]⟩ : ByteArray)).size ≤ 9223372036854775807 then (arboristref01_Quote.l0 k x0 (x3 ++ (((⟨#[92, 117, 123]⟩ : ByteArray) ++ t217) ++ (⟨#[125]⟩ : ByteArray))) x4 (wrap64 (x5 + 1))) else (none)) else (none)) else (none)))) else ((arboristref01_Hex.f k (wrap64 (x6)) 1).bind fun t218 => (if 3 + t218.size ≤ 9223372036854775807 then (if ((⟨#[92, 117, 123]⟩ : ByteArray) ++ t218).size + 1 ≤ 9223372036854775807 then (if x3.size + (((⟨#[92, 117, 123]⟩ : ByteArray) ++ t218) ++ (⟨#[125]⟩ : ByteArray)).size ≤ 9223372036854775807 then (arboristref01_Quote.l0 k x0 (x3 ++ (((⟨#[92, 117, 123]⟩ : ByteArray) ++ t218) ++ (⟨#[125]⟩ : ByteArray))) x4 (wrap64 (x5 + 1))) else (none)) else (none)) else (none)))))))
end
def arboristref01_Quote.f (k : Nat) (a0 : ByteArray) : Option (ByteArray) := (arboristref01_Runes.f k a0).bind fun t205 => (arboristref01_Quote.l0 k a0 (⟨#[34]⟩ : ByteArray) t205 0)
set_option maxHeartbeats 8000000 in
set_option maxRecDepth 100000 in
theorem arboristref01_Quote.calls (k : Nat) (a0 : ByteArray) (r : ByteArray) (w : World) (h : arboristref01_Quote.f k a0 = some r) :
  Calls Tryd.prog 41 #[.string a0] w fun e w' => e = .returned (.string r) ∧ Below w.heap.size w w' := by
 (have hu65 := Tryd.underlying65); (have HB := qM (Below.refl w.heap.size w)); (have H : ((arboristref01_Runes.f k a0).bind fun t205 => (arboristref01_Quote.l0 k a0 (⟨#[34]⟩ : ByteArray) t205 0)) = some r := h); clear h; (replace H := Option.bind_eq_some_iff.mp H); (obtain ⟨t205, A20, H⟩ := H); (replace H : (arboristref01_Quote.l0 k a0 (⟨#[34]⟩ : ByteArray) t205 0) = some r := H); (have A2 := qM A20); clear A20; (have H' := qM H); clear H; (go_enter Tryd.func41, Tryd.ntmps41); (go_wp2_with (first | (go_at_call 62; (with_reducible refine (arboristref01_Runes.calls k a0 t205 _ A2.out).mono ?_); rintro e w3 ⟨v206, rfl, ho0, hb⟩; have n0_ := qM (Kd.R_lower ho0 (qZ qF)); have n1_ := qM (qP qF hb); clear HB; have HO207 := n0_; have HB := n1_; clear n0_ n1_; (try clear hb); (try clear hb2); (try clear hk); (try clear hi); (try clear ho0))))
 repeat (go_quiet (first | (go_at_call 62; (with_reducible refine (arboristref01_Runes.calls k a0 t205 _ A2.out).mono ?_); rintro e w3 ⟨v206, rfl, ho0, hb⟩; have n0_ := qM (Kd.R_lower ho0 (qZ qF)); have n1_ := qM (qP qF hb); clear HB; have HO207 := n0_; have HB := n1_; clear n0_ n1_; (try clear hb); (try clear hb2); (try clear hk); (try clear hi); (try clear ho0))); try go_wp2_with (first | (go_at_call 62; (with_reducible refine (arboristref01_Runes.calls k a0 t205 _ A2.out).mono ?_); rintro e w3 ⟨v206, rfl, ho0, hb⟩; have n0_ := qM (Kd.R_lower ho0 (qZ qF)); have n1_ := qM (qP qF hb); clear HB; have HO207 := n0_; have HB := n1_; clear n0_ n1_; (try clear hb); (try clear hb2); (try clear hk); (try clear hi); (try clear ho0))))
 go_loopg [3, 5] k (fun kq v3 v5 w' => ∃ (x3_1 : ByteArray) (x5_1 : Int), v3 = .string x3_1 ∧ v5 = .int .i64 x5_1 ∧ Aside0 (arboristref01_Quote.l0 kq a0 x3_1 t205 x5_1 = some r) ∧ Aside0 (kq ≤ k) ∧ Aside0 (Kd.R k65 65 w' w.heap.size (fun _ => True) v206 t205) ∧ Aside0 (Below w.heap.size w w'))
 case atStart => exact ⟨((⟨#[34]⟩ : ByteArray)), (0), qV, qV, H', ⟨Nat.le_refl _⟩, ⟨by (with_reducible repeat (first | apply Kd.R_alloc | apply Kd.R_drewN | apply Kd.R_drew)); exact HO207.out⟩, ⟨qF⟩⟩
 case round =>
  (clear H'); (try clear p2); (obtain ⟨x3_1, x5_1, rfl, rfl, HA, HK1, HO_4, HB⟩ := hrel)
  cases gk with
  | zero => exact absurd HA.out (by simp [arboristref01_Quote.l0])
  | succ k1 =>
   (have H := HA.out); clear HA; (simp only [arboristref01_Quote.l0] at H); (by_cases c4 : x5_1 < (t205.length : Int))
   ·rw [if_pos c4] at H
    (have c4b0 : decide (x5_1 < (t205.length : Int)) = true := decide_eq_true c4); clear c4; (by_cases c5 : 0 ≤ x5_1)
    ·rw [if_pos c5] at H
     (have c5b0 : decide (0 ≤ x5_1) = true := decide_eq_true c5); clear c5; (replace H := Option.bind_eq_some_iff.mp H); (obtain ⟨t210, A60, H⟩ := H)
     replace H : (if t210 = true then (if 0 ≤ ((rd_T65 t205 x5_1).f1) then (if ((rd_T65 t205 x5_1).f1) < (a0.size : Int) then ((arboristref01_Hex.f k1 (wrap64 (bt a0 ((rd_T65 t205 x5_1).f1))) 2).bind fun t212 => (if 3 + t212.size ≤ 9223372036854775807 then (if ((⟨#[92, 120, 123]⟩ : ByteArray) ++ t212).size + 1 ≤ 9223372036854775807 then (if x3_1.size + (((⟨#[92, 120, 123]⟩ : ByteArray) ++ t212) ++ (⟨#[125]⟩ : ByteArray)).size ≤ 9223372036854775807 then (arboristref01_Quote.l0 k1 a0 (x3_1 ++ (((⟨#[92, 120, 123]⟩ : ByteArray) ++ t212) ++ (⟨#[125]⟩ : ByteArray))) t205 (wrap64 (x5_1 + 1))) else (none)) else (none)) else (none))) else (none)) else (none)) else (if ((rd_T65 t205 x5_1).f0) = 34 then (arboristref01_Quote.j1 k1 a0 x3_1 t205 x5_1 ((rd_T65 t205 x5_1).f0) true) else (arboristref01_Quote.j1 k1 a0 x3_1 t205 x5_1 ((rd_T65 t205 x5_1).f0) (((rd_T65 t205 x5_1).f0) == 92)))) = some r := H
     (have A6 := qM A60); clear A60; (by_cases c7 : t210 = true)
     ·subst c7
      (have H1 : (if 0 ≤ ((rd_T65 t205 x5_1).f1) then (if ((rd_T65 t205 x5_1).f1) < (a0.size : Int) then ((arboristref01_Hex.f k1 (wrap64 (bt a0 ((rd_T65 t205 x5_1).f1))) 2).bind fun t212 => (if 3 + t212.size ≤ 9223372036854775807 then (if ((⟨#[92, 120, 123]⟩ : ByteArray) ++ t212).size + 1 ≤ 9223372036854775807 then (if x3_1.size + (((⟨#[92, 120, 123]⟩ : ByteArray) ++ t212) ++ (⟨#[125]⟩ : ByteArray)).size ≤ 9223372036854775807 then (arboristref01_Quote.l0 k1 a0 (x3_1 ++ (((⟨#[92, 120, 123]⟩ : ByteArray) ++ t212) ++ (⟨#[125]⟩ : ByteArray))) t205 (wrap64 (x5_1 + 1))) else (none)) else (none)) else (none))) else (none)) else (none)) = some r := by rw [if_pos rfl] at H; exact H); clear H; (have H := H1); clear H1; (by_cases c8 : 0 ≤ ((rd_T65 t205 x5_1).f1))
      ·rw [if_pos c8] at H
       (have c8b0 : decide (0 ≤ ((rd_T65 t205 x5_1).f1)) = true := decide_eq_true c8); clear c8; (by_cases c9 : ((rd_T65 t205 x5_1).f1) < (a0.size : Int))
       ·rw [if_pos c9] at H
        (have c9b0 : decide (((rd_T65 t205 x5_1).f1) < (a0.size : Int)) = true := decide_eq_true c9); clear c9; (replace H := Option.bind_eq_some_iff.mp H); (obtain ⟨t212, A110, H⟩ := H); (replace H : (if 3 + t212.size ≤ 9223372036854775807 then (if ((⟨#[92, 120, 123]⟩ : ByteArray) ++ t212).size + 1 ≤ 9223372036854775807 then (if x3_1.size + (((⟨#[92, 120, 123]⟩ : ByteArray) ++ t212) ++ (⟨#[125]⟩ : ByteArray)).size ≤ 9223372036854775807 then (arboristref01_Quote.l0 k1 a0 (x3_1 ++ (((⟨#[92, 120, 123]⟩ : ByteArray) ++ t212) ++ (⟨#[125]⟩ : ByteArray))) t205 (wrap64 (x5_1 + 1))) else (none)) else (none)) else (none)) = some r := H); (have A11 := qM A110); clear A110; (by_cases c12 : 3 + t212.size ≤ 9223372036854775807)
        ·rw [if_pos c12] at H
         (have c12b0 := eq_true c12); (have c12b1 : decide (3 + t212.size ≤ 9223372036854775807) = true := decide_eq_true c12); (try have c12b2 : (9223372036854775807 < 3 + t212.size) = False := eq_false (Nat.not_lt.2 c12)); (by_cases c13 : ((⟨#[92, 120, 123]⟩ : ByteArray) ++ t212).size + 1 ≤ 9223372036854775807)
         ·rw [if_pos c13] at H
          (have c13b0 := eq_true c13); (have c13b1 : decide (((⟨#[92, 120, 123]⟩ : ByteArray) ++ t212).size + 1 ≤ 9223372036854775807) = true := decide_eq_true c13); (try have c13b2 : (9223372036854775807 < ((⟨#[92, 120, 123]⟩ : ByteArray) ++ t212).size + 1) = False := eq_false (Nat.not_lt.2 c13)); (try have c13b3 : (9223372036854775807 < 3 + t212.size + 1) = False := eq_false (Nat.not_lt.2 (by have h_ := c13; simp only [ByteArray.size_append] at h_; exact h_))); (by_cases c14 : x3_1.size + (((⟨#[92, 120, 123]⟩ : ByteArray) ++ t212) ++ (⟨#[125]⟩ : ByteArray)).size ≤ 9223372036854775807)
          ·rw [if_pos c14] at H
           (have c14b0 := eq_true c14); (have c14b1 : decide (x3_1.size + (((⟨#[92, 120, 123]⟩ : ByteArray) ++ t212) ++ (⟨#[125]⟩ : ByteArray)).size ≤ 9223372036854775807) = true := decide_eq_true c14); (try have c14b2 : (9223372036854775807 < x3_1.size + (((⟨#[92, 120, 123]⟩ : ByteArray) ++ t212) ++ (⟨#[125]⟩ : ByteArray)).size) = False := eq_false (Nat.not_lt.2 c14)); (try have c14b3 : (9223372036854775807 < x3_1.size + (3 + t212.size + 1)) = False := eq_false (Nat.not_lt.2 (by have h_ := c14; simp only [ByteArray.size_append] at h_; exact h_))); (have H' := qM H); clear H; (obtain ⟨Ao15, co15, eo15⟩ := Kd.R_slice HO_4.out); subst eo15; (have p208 : 0 ≤ (x5_1 : Int) := qo qX); (have q208 : x5_1 < (t205.length : Int) := qo qX); (obtain ⟨ad208, e208, hx208_0, hx208_1, hx208_2⟩ := at_T65 (Kd.R_reads' HO_4.out).2.2 x5_1 p208 q208)
           cases e208
           (replace p208 := eq_true p208); (replace q208 := eq_true q208); (have p209 : 0 ≤ (x5_1 : Int) := qo qX); (have q209 : x5_1 < (t205.length : Int) := qo qX); (obtain ⟨ad209, e209, hx209_0, hx209_1, hx209_2⟩ := at_T65 (Kd.R_reads' HO_4.out).2.2 x5_1 p209 q209); (obtain rfl : ad208 = ad209 := (by injection e209)); (replace p209 := eq_true p209); (replace q209 := eq_true q209)
           go_wp2_with (first | (go_at_call 59; (with_reducible refine (arboristref01_Invalid.calls ((rd_T65 t205 x5_1).f0) ((rd_T65 t205 x5_1).f1) ((rd_T65 t205 x5_1).f2) true _ A6.out).mono ?_); rintro e w16 ⟨rfl, hb⟩; have n0_ := qM (Kd.R_below (by (with_reducible repeat (first | apply Kd.R_alloc | apply Kd.R_drewN | apply Kd.R_drew)); exact HO_4.out) hb); have n1_ := qM (qP qF hb); clear HO_4; clear HB; have HO_4 := n0_; have HB := n1_; clear n0_ n1_; (try clear hb); (try clear hb2); (try clear hk); (try clear hi); have p211 : 0 ≤ (x5_1 : Int) := qo qX; have q211 : x5_1 < (t205.length : Int) := qo qX; obtain ⟨ad211, e211, hx211_0, hx211_1, hx211_2⟩ := at_T65 (Kd.R_reads' HO_4.out).2.2 x5_1 p211 q211; obtain rfl : ad208 = ad211 := (by injection e211); replace p211 := eq_true p211; replace q211 := eq_true q211; have p10 : 0 ≤ (((rd_T65 t205 x5_1).f1) : Int) := qo qX; have q10 : ((rd_T65 t205 x5_1).f1) < (a0.size : Int) := qo qX; have hx10 := bt_at a0 ((rd_T65 t205 x5_1).f1); replace p10 := eq_true p10; replace q10 := eq_true q10) | (go_at_call 63; (with_reducible refine (arboristref01_Hex.calls k1 (wrap64 (bt a0 ((rd_T65 t205 x5_1).f1))) 2 t212 _ A11.out).mono ?_); rintro e w' ⟨rfl, ⟨nd, rfl⟩⟩; (try first | exact ⟨rfl, _, World.drewN_drewN _ _ _⟩ | exact ⟨rfl, _, Eq.trans (World.drewN_drewN _ _ _) (congrArg (World.drewN _) (Nat.add_assoc _ _ _))⟩)))
           repeat (go_quiet (first | (go_at_call 59; (with_reducible refine (arboristref01_Invalid.calls ((rd_T65 t205 x5_1).f0) ((rd_T65 t205 x5_1).f1) ((rd_T65 t205 x5_1).f2) true _ A6.out).mono ?_); rintro e w16 ⟨rfl, hb⟩; have n0_ := qM (Kd.R_below (by (with_reducible repeat (first | apply Kd.R_alloc | apply Kd.R_drewN | apply Kd.R_drew)); exact HO_4.out) hb); have n1_ := qM (qP qF hb); clear HO_4; clear HB; have HO_4 := n0_; have HB := n1_; clear n0_ n1_; (try clear hb); (try clear hb2); (try clear hk); (try clear hi); have p211 : 0 ≤ (x5_1 : Int) := qo qX; have q211 : x5_1 < (t205.length : Int) := qo qX; obtain ⟨ad211, e211, hx211_0, hx211_1, hx211_2⟩ := at_T65 (Kd.R_reads' HO_4.out).2.2 x5_1 p211 q211; obtain rfl : ad208 = ad211 := (by injection e211); replace p211 := eq_true p211; replace q211 := eq_true q211; have p10 : 0 ≤ (((rd_T65 t205 x5_1).f1) : Int) := qo qX; have q10 : ((rd_T65 t205 x5_1).f1) < (a0.size : Int) := qo qX; have hx10 := bt_at a0 ((rd_T65 t205 x5_1).f1); replace p10 := eq_true p10; replace q10 := eq_true q10) | (go_at_call 63; (with_reducible refine (arboristref01_Hex.calls k1 (wrap64 (bt a0 ((rd_T65 t205 x5_1).f1))) 2 t212 _ A11.out).mono ?_); rintro e w' ⟨rfl, ⟨nd, rfl⟩⟩; (try first | exact ⟨rfl, _, World.drewN_drewN _ _ _⟩ | exact ⟨rfl, _, Eq.trans (World.drewN_drewN _ _ _) (congrArg (World.drewN _) (Nat.add_assoc _ _ _))⟩))); try go_wp2_with (first | (go_at_call 59; (with_reducible refine (arboristref01_Invalid.calls ((rd_T65 t205 x5_1).f0) ((rd_T65 t205 x5_1).f1) ((rd_T65 t205 x5_1).f2) true _ A6.out).mono ?_); rintro e w16 ⟨rfl, hb⟩; have n0_ := qM (Kd.R_below (by (with_reducible repeat (first | apply Kd.R_alloc | apply Kd.R_drewN | apply Kd.R_drew)); exact HO_4.out) hb); have n1_ := qM (qP qF hb); clear HO_4; clear HB; have HO_4 := n0_; have HB := n1_; clear n0_ n1_; (try clear hb); (try clear hb2); (try clear hk); (try clear hi); have p211 : 0 ≤ (x5_1 : Int) := qo qX; have q211 : x5_1 < (t205.length : Int) := qo qX; obtain ⟨ad211, e211, hx211_0, hx211_1, hx211_2⟩ := at_T65 (Kd.R_reads' HO_4.out).2.2 x5_1 p211 q211; obtain rfl : ad208 = ad211 := (by injection e211); replace p211 := eq_true p211; replace q211 := eq_true q211; have p10 : 0 ≤ (((rd_T65 t205 x5_1).f1) : Int) := qo qX; have q10 : ((rd_T65 t205 x5_1).f1) < (a0.size : Int) := qo qX; have hx10 := bt_at a0 ((rd_T65 t205 x5_1).f1); replace p10 := eq_true p10; replace q10 := eq_true q10) | (go_at_call 63; (with_reducible refine (arboristref01_Hex.calls k1 (wrap64 (bt a0 ((rd_T65 t205 x5_1).f1))) 2 t212 _ A11.out).mono ?_); rintro e w' ⟨rfl, ⟨nd, rfl⟩⟩; (try first | exact ⟨rfl, _, World.drewN_drewN _ _ _⟩ | exact ⟨rfl, _, Eq.trans (World.drewN_drewN _ _ _) (congrArg (World.drewN _) (Nat.add_assoc _ _ _))⟩))))
           go_roundg k1
           case measure => have := HK1.out; omega
           case rel => exact ⟨(x3_1 ++ (((⟨#[92, 120, 123]⟩ : ByteArray) ++ t212) ++ (⟨#[125]⟩ : ByteArray))), (wrap64 (x5_1 + 1)), qV, qV, H', ⟨by have := HK1.out; omega⟩, ⟨by (with_reducible repeat (first | apply Kd.R_alloc | apply Kd.R_drewN | apply Kd.R_drew)); exact HO_4.out⟩, ⟨qF⟩⟩
          ·rw [if_neg c14] at H
           exact absurd H (by simp)
         ·rw [if_neg c13] at H
          exact absurd H (by simp)
        ·rw [if_neg c12] at H
         exact absurd H (by simp)
       ·rw [if_neg c9] at H
        exact absurd H (by simp)
      ·rw [if_neg c8] at H
       exact absurd H (by simp)
     ·replace c7 := Bool.eq_false_iff.mpr c7
      subst c7; (have H1 : (if ((rd_T65 t205 x5_1).f0) = 34 then (arboristref01_Quote.j1 k1 a0 x3_1 t205 x5_1 ((rd_T65 t205 x5_1).f0) true) else (arboristref01_Quote.j1 k1 a0 x3_1 t205 x5_1 ((rd_T65 t205 x5_1).f0) (((rd_T65 t205 x5_1).f0) == 92))) = some r := by rw [if_neg (show ¬ (false = true) by decide)] at H; exact H); clear H; (have H := H1); clear H1; (have HC17 := qM H); clear H; (obtain ⟨Ao18, co18, eo18⟩ := Kd.R_slice HO_4.out); subst eo18; (have p208 : 0 ≤ (x5_1 : Int) := qo qX); (have q208 : x5_1 < (t205.length : Int) := qo qX); (obtain ⟨ad208, e208, hx208_0, hx208_1, hx208_2⟩ := at_T65 (Kd.R_reads' HO_4.out).2.2 x5_1 p208 q208)
      cases e208
      (replace p208 := eq_true p208); (replace q208 := eq_true q208); (have p209 : 0 ≤ (x5_1 : Int) := qo qX); (have q209 : x5_1 < (t205.length : Int) := qo qX); (obtain ⟨ad209, e209, hx209_0, hx209_1, hx209_2⟩ := at_T65 (Kd.R_reads' HO_4.out).2.2 x5_1 p209 q209); (obtain rfl : ad208 = ad209 := (by injection e209)); (replace p209 := eq_true p209); (replace q209 := eq_true q209); (go_upto_region 10 with (first | (go_at_call 59; (with_reducible refine (arboristref01_Invalid.calls ((rd_T65 t205 x5_1).f0) ((rd_T65 t205 x5_1).f1) ((rd_T65 t205 x5_1).f2) false _ A6.out).mono ?_); rintro e w19 ⟨rfl, hb⟩; have n0_ := qM (Kd.R_below (by (with_reducible repeat (first | apply Kd.R_alloc | apply Kd.R_drewN | apply Kd.R_drew)); exact HO_4.out) hb); have n1_ := qM (qP qF hb); clear HO_4; clear HB; have HO_4 := n0_; have HB := n1_; clear n0_ n1_; (try clear hb); (try clear hb2); (try clear hk); (try clear hi))))
      repeat (go_quiet (first | (go_at_call 59; (with_reducible refine (arboristref01_Invalid.calls ((rd_T65 t205 x5_1).f0) ((rd_T65 t205 x5_1).f1) ((rd_T65 t205 x5_1).f2) false _ A6.out).mono ?_); rintro e w19 ⟨rfl, hb⟩; have n0_ := qM (Kd.R_below (by (with_reducible repeat (first | apply Kd.R_alloc | apply Kd.R_drewN | apply Kd.R_drew)); exact HO_4.out) hb); have n1_ := qM (qP qF hb); clear HO_4; clear HB; have HO_4 := n0_; have HB := n1_; clear n0_ n1_; (try clear hb); (try clear hb2); (try clear hk); (try clear hi))); go_upto_region 10 with (first | (go_at_call 59; (with_reducible refine (arboristref01_Invalid.calls ((rd_T65 t205 x5_1).f0) ((rd_T65 t205 x5_1).f1) ((rd_T65 t205 x5_1).f2) false _ A6.out).mono ?_); rintro e w19 ⟨rfl, hb⟩; have n0_ := qM (Kd.R_below (by (with_reducible repeat (first | apply Kd.R_alloc | apply Kd.R_drewN | apply Kd.R_drew)); exact HO_4.out) hb); have n1_ := qM (qP qF hb); clear HO_4; clear HB; have HO_4 := n0_; have HB := n1_; clear n0_ n1_; (try clear hb); (try clear hb2); (try clear hk); (try clear hi))))
      ((try simp only [Act.put, List.setIfInBounds_toArray, List.set_cons_zero, List.set_cons_succ])); (go_cut [46] (fun v46 wc => ∃ (kq : Nat) (x46_16 : Bool), v46 = .bool x46_16 ∧ Aside0 (arboristref01_Quote.j1 kq a0 x3_1 t205 x5_1 ((rd_T65 t205 x5_1).f0) x46_16 = some r) ∧ Aside0 (kq ≤ k1) ∧ Aside0 (Kd.R k65 65 wc w.heap.size (fun _ => True) (.slice (some ad208) t205.length co18) t205) ∧ Aside0 (Below w.heap.size w wc)))
      case first =>
       (have H := HC17.out); clear HC17; (by_cases c20 : ((rd_T65 t205 x5_1).f0) = 34)
       ·rw [if_pos c20] at H
        (have c20b0 : (((rd_T65 t205 x5_1).f0) == 34) = true := beq_iff_eq.mpr c20); (have c20b1 : (((rd_T65 t205 x5_1).f0) != 34) = false := bne_eq_false_iff_eq.mpr c20); clear c20; ((first | rw [c20b0] | (simp only [i64_w, i32_w]; rw [c20b0]) | skip)); (have H' := qM H); clear H; go_wp2; (repeat (go_quiet (fail); try go_wp2)); go_meet
        case rel => exact ⟨_, (true), qV, H', ⟨by have := HK1.out; first | omega | exact Nat.le_refl _⟩, ⟨by (with_reducible repeat (first | apply Kd.R_alloc | apply Kd.R_drewN | apply Kd.R_drew)); exact HO_4.out⟩, ⟨qF⟩⟩
       ·rw [if_neg c20] at H
        (have c20b0 : (((rd_T65 t205 x5_1).f0) == 34) = false := beq_eq_false_iff_ne.mpr c20); (have c20b1 : (((rd_T65 t205 x5_1).f0) != 34) = true := bne_iff_ne.mpr c20); ((first | rw [c20b0] | (simp only [i64_w, i32_w]; rw [c20b0]) | skip)); (have H' := qM H); clear H; go_wp2; (repeat (go_quiet (fail); try go_wp2)); go_meet
        case rel => exact ⟨_, ((((rd_T65 t205 x5_1).f0) == 92)), qV, H', ⟨by have := HK1.out; first | omega | exact Nat.le_refl _⟩, ⟨by (with_reducible repeat (first | apply Kd.R_alloc | apply Kd.R_drewN | apply Kd.R_drew)); exact HO_4.out⟩, ⟨qF⟩⟩
      case rest =>
       clear HC17; (try clear c1); (try clear p1); (try clear q1); (try clear hx1); (try clear c2); (try clear p2); (try clear q2); (try clear hx2); (try clear c4); (try clear c4b0); (try clear c5); (try clear c5b0); (try clear p6); (try clear c7); (try clear c8); (try clear c8b0); (try clear c9); (try clear c9b0); (try clear p10); (try clear q10); (try clear hx10); (try clear c12); (try clear c12b0); (try clear c12b1); (try clear c12b2); (try clear c13); (try clear c13b0); (try clear c13b1); (try clear c13b2); (try clear c14); (try clear c14b0); (try clear c14b1); (try clear c14b2); (try clear c20); (try clear c20b0); (try clear c20b1); (try clear p20); (try clear q20); (try clear hx20); (try clear hx208_0 hx208_1 hx208_2); (try clear hx209_0 hx209_1 hx209_2); (try clear hx211_0 hx211_1 hx211_2); (try clear p10); (try clear p2); (try clear p208); (try clear p209); (try clear p211); (try clear q10); (try clear q208); (try clear q209); (try clear q211); (obtain ⟨kq, x46_16, rfl, HA, HJ16, HO_4, HB⟩ := hcut)
       cases kq with
       | zero => exact absurd HA.out (by simp [arboristref01_Quote.j1])
       | succ kj16 =>
        (have H := HA.out); clear HA; (simp only [arboristref01_Quote.j1] at H); (by_cases c21 : x46_16 = true)
        ·subst c21
         have H1 : (if 0 ≤ x5_1 then (if x5_1 < (t205.length : Int) then (if 0 ≤ ((rd_T65 t205 x5_1).f1) then (if ((rd_T65 t205 x5_1).f1) ≤ (wrap64 (((rd_T65 t205 x5_1).f1) + 1)) then (if (wrap64 (((rd_T65 t205 x5_1).f1) + 1)) ≤ (a0.size : Int) then (if 1 + (a0.extract (((rd_T65 t205 x5_1).f1) : Int).toNat ((wrap64 (((rd_T65 t205 x5_1).f1) + 1)) : Int).toNat).size ≤ 9223372036854775807 then (if x3_1.size + ((⟨#[92]⟩ : ByteArray) ++ (a0.extract (((rd_T65 t205 x5_1).f1) : Int).toNat ((wrap64 (((rd_T65 t205 x5_1).f1) + 1)) : Int).toNat)).size ≤ 9223372036854775807 then (arboristref01_Quote.l0 kj16 a0 (x3_1 ++ ((⟨#[92]⟩ : ByteArray) ++ (a0.extract (((rd_T65 t205 x5_1).f1) : Int).toNat ((wrap64 (((rd_T65 t205 x5_1).f1) + 1)) : Int).toNat))) t205 (wrap64 (x5_1 + 1))) else (none)) else (none)) else (none)) else (none)) else (none)) else (none)) else (none)) = some r := by rw [if_pos rfl] at H; exact H
         clear H; (have H := H1); clear H1; (by_cases c22 : 0 ≤ x5_1)
         ·rw [if_pos c22] at H
          (have c22b0 : decide (0 ≤ x5_1) = true := decide_eq_true c22); clear c22; (by_cases c23 : x5_1 < (t205.length : Int))
          ·rw [if_pos c23] at H
           (have c23b0 : decide (x5_1 < (t205.length : Int)) = true := decide_eq_true c23); clear c23; (by_cases c24 : 0 ≤ ((rd_T65 t205 x5_1).f1))
           ·rw [if_pos c24] at H
            (have c24b0 := eq_true c24); (have c24b1 : decide (0 ≤ ((rd_T65 t205 x5_1).f1)) = true := decide_eq_true c24); clear c24; (by_cases c25 : ((rd_T65 t205 x5_1).f1) ≤ (wrap64 (((rd_T65 t205 x5_1).f1) + 1)))
            ·rw [if_pos c25] at H
             (have c25b0 := eq_true c25); (have c25b1 : decide (((rd_T65 t205 x5_1).f1) ≤ (wrap64 (((rd_T65 t205 x5_1).f1) + 1))) = true := decide_eq_true c25); (by_cases c26 : (wrap64 (((rd_T65 t205 x5_1).f1) + 1)) ≤ (a0.size : Int))
             ·rw [if_pos c26] at H
              (have c26b0 := eq_true c26); (have c26b1 : decide ((wrap64 (((rd_T65 t205 x5_1).f1) + 1)) ≤ (a0.size : Int)) = true := decide_eq_true c26); (by_cases c27 : 1 + (a0.extract (((rd_T65 t205 x5_1).f1) : Int).toNat ((wrap64 (((rd_T65 t205 x5_1).f1) + 1)) : Int).toNat).size ≤ 9223372036854775807)
              ·rw [if_pos c27] at H
               (have c27b0 := eq_true c27); (have c27b1 : decide (1 + (a0.extract (((rd_T65 t205 x5_1).f1) : Int).toNat ((wrap64 (((rd_T65 t205 x5_1).f1) + 1)) : Int).toNat).size ≤ 9223372036854775807) = true := decide_eq_true c27); (try have c27b2 : (9223372036854775807 < 1 + (a0.extract (((rd_T65 t205 x5_1).f1) : Int).toNat ((wrap64 (((rd_T65 t205 x5_1).f1) + 1)) : Int).toNat).size) = False := eq_false (Nat.not_lt.2 c27)); (try have c27b4 : (9223372036854775807 < 1 + (((wrap64 (((rd_T65 t205 x5_1).f1) + 1)) : Int).toNat - (((rd_T65 t205 x5_1).f1) : Int).toNat)) = False := eq_false (Nat.not_lt.2 (by have h_ := c27; simp only [ByteArray.size_append, ByteArray.size_extract] at h_; omega))); (by_cases c28 : x3_1.size + ((⟨#[92]⟩ : ByteArray) ++ (a0.extract (((rd_T65 t205 x5_1).f1) : Int).toNat ((wrap64 (((rd_T65 t205 x5_1).f1) + 1)) : Int).toNat)).size ≤ 9223372036854775807)
               ·rw [if_pos c28] at H
                (have c28b0 := eq_true c28); (have c28b1 : decide (x3_1.size + ((⟨#[92]⟩ : ByteArray) ++ (a0.extract (((rd_T65 t205 x5_1).f1) : Int).toNat ((wrap64 (((rd_T65 t205 x5_1).f1) + 1)) : Int).toNat)).size ≤ 9223372036854775807) = true := decide_eq_true c28); (try have c28b2 : (9223372036854775807 < x3_1.size + ((⟨#[92]⟩ : ByteArray) ++ (a0.extract (((rd_T65 t205 x5_1).f1) : Int).toNat ((wrap64 (((rd_T65 t205 x5_1).f1) + 1)) : Int).toNat)).size) = False := eq_false (Nat.not_lt.2 c28)); (try have c28b3 : (9223372036854775807 < x3_1.size + (1 + (a0.extract (((rd_T65 t205 x5_1).f1) : Int).toNat ((wrap64 (((rd_T65 t205 x5_1).f1) + 1)) : Int).toNat).size)) = False := eq_false (Nat.not_lt.2 (by have h_ := c28; simp only [ByteArray.size_append] at h_; exact h_))); (try have c28b4 : (9223372036854775807 < x3_1.size + (1 + (((wrap64 (((rd_T65 t205 x5_1).f1) + 1)) : Int).toNat - (((rd_T65 t205 x5_1).f1) : Int).toNat))) = False := eq_false (Nat.not_lt.2 (by have h_ := c28; simp only [ByteArray.size_append, ByteArray.size_extract] at h_; omega))); (have H' := qM H); clear H; (have p213 : 0 ≤ (x5_1 : Int) := qo qX); (have q213 : x5_1 < (t205.length : Int) := qo qX); (obtain ⟨ad213, e213, hx213_0, hx213_1, hx213_2⟩ := at_T65 (Kd.R_reads' HO_4.out).2.2 x5_1 p213 q213); (obtain rfl : ad208 = ad213 := (by injection e213)); (replace p213 := eq_true p213); (replace q213 := eq_true q213); (have p214 : 0 ≤ (x5_1 : Int) := qo qX); (have q214 : x5_1 < (t205.length : Int) := qo qX); (obtain ⟨ad214, e214, hx214_0, hx214_1, hx214_2⟩ := at_T65 (Kd.R_reads' HO_4.out).2.2 x5_1 p214 q214); (obtain rfl : ad208 = ad214 := (by injection e214)); (replace p214 := eq_true p214); (replace q214 := eq_true q214); go_wp2; (repeat (go_quiet (fail); try go_wp2)); (go_roundg kj16)
                case measure => have := HK1.out; have := HJ16.out; omega
                case rel => exact ⟨(x3_1 ++ ((⟨#[92]⟩ : ByteArray) ++ (a0.extract (((rd_T65 t205 x5_1).f1) : Int).toNat ((wrap64 (((rd_T65 t205 x5_1).f1) + 1)) : Int).toNat))), (wrap64 (x5_1 + 1)), qV, qV, H', ⟨by have := HK1.out; have := HJ16.out; omega⟩, ⟨by (with_reducible repeat (first | apply Kd.R_alloc | apply Kd.R_drewN | apply Kd.R_drew)); exact HO_4.out⟩, ⟨qF⟩⟩
               ·rw [if_neg c28] at H
                exact absurd H (by simp)
              ·rw [if_neg c27] at H
               exact absurd H (by simp)
             ·rw [if_neg c26] at H
              exact absurd H (by simp)
            ·rw [if_neg c25] at H
             exact absurd H (by simp)
           ·rw [if_neg c24] at H
            exact absurd H (by simp)
          ·rw [if_neg c23] at H
           exact absurd H (by simp)
         ·rw [if_neg c22] at H
          exact absurd H (by simp)
        ·replace c21 := Bool.eq_false_iff.mpr c21
         subst c21
         have H1 : (if ((rd_T65 t205 x5_1).f0) = 10 then (if x3_1.size + 2 ≤ 9223372036854775807 then (arboristref01_Quote.l0 kj16 a0 (x3_1 ++ (⟨#[92, 110]⟩ : ByteArray)) t205 (wrap64 (x5_1 + 1))) else (none)) else (if ((rd_T65 t205 x5_1).f0) = 13 then (if x3_1.size + 2 ≤ 9223372036854775807 then (arboristref01_Quote.l0 kj16 a0 (x3_1 ++ (⟨#[92, 114]⟩ : ByteArray)) t205 (wrap64 (x5_1 + 1))) else (none)) else (if ((rd_T65 t205 x5_1).f0) = 9 then (if x3_1.size + 2 ≤ 9223372036854775807 then (arboristref01_Quote.l0 kj16 a0 (x3_1 ++ (⟨#[92, 116]⟩ : ByteArray)) t205 (wrap64 (x5_1 + 1))) else (none)) else (if ((rd_T65 t205 x5_1).f0) ≥ 32 then (if ((rd_T65 t205 x5_1).f0) ≤ 126 then (if 0 ≤ x5_1 then (if x5_1 < (t205.length : Int) then (if 0 ≤ ((rd_T65 t205 x5_1).f1) then (if ((rd_T65 t205 x5_1).f1) ≤ (wrap64 (((rd_T65 t205 x5_1).f1) + 1)) then (if (wrap64 (((rd_T65 t205 x5_1).f1) + 1)) ≤ (a0.size : Int) then (if x3_1.size + (a0.extract (((rd_T65 t205 x5_1).f1) : Int).toNat ((wrap64 (((rd_T65 t205 x5_1).f1) + 1)) : Int).toNat).size ≤ 9223372036854775807 then (arboristref01_Quote.l0 kj16 a0 (x3_1 ++ (a0.extract (((rd_T65 t205 x5_1).f1) : Int).toNat ((wrap64 (((rd_T65 t205 x5_1).f1) + 1)) : Int).toNat)) t205 (wrap64 (x5_1 + 1))) else (none)) else (none)) else (none)) else (none)) else (none)) else (none)) else ((arboristref01_Hex.f kj16 (wrap64 (((rd_T65 t205 x5_1).f0))) 1).bind fun t217 => (if 3 + t217.size ≤ 9223372036854775807 then (if ((⟨#[92, 117, 123]⟩ : ByteArray) ++ t217).size + 1 ≤ 9223372036854775807 then (if x3_1.size + (((⟨#[92, 117, 123]⟩ : ByteArray) ++ t217) ++ (⟨#[125]⟩ : ByteArray)).size ≤ 9223372036854775807 then (arboristref01_Quote.l0 kj16 a0 (x3_1 ++ (((⟨#[92, 117, 123]⟩ : ByteArray) ++ t217) ++ (⟨#[125]⟩ : ByteArray))) t205 (wrap64 (x5_1 + 1))) else (none)) else (none)) else (none)))) else ((arboristref01_Hex.f kj16 (wrap64 (((rd_T65 t205 x5_1).f0))) 1).bind fun t218 => (if 3 + t218.size ≤ 9223372036854775807 then (if ((⟨#[92, 117, 123]⟩ : ByteArray) ++ t218).size + 1 ≤ 9223372036854775807 then (if x3_1.size + (((⟨#[92, 117, 123]⟩ : ByteArray) ++ t218) ++ (⟨#[125]⟩ : ByteArray)).size ≤ 9223372036854775807 then (arboristref01_Quote.l0 kj16 a0 (x3_1 ++ (((⟨#[92, 117, 123]⟩ : ByteArray) ++ t218) ++ (⟨#[125]⟩ : ByteArray))) t205 (wrap64 (x5_1 + 1))) else (none)) else (none)) else (none))))))) = some r := by rw [if_neg (show ¬ (false = true) by decide)] at H; exact H
         clear H; (have H := H1); clear H1; (by_cases c29 : ((rd_T65 t205 x5_1).f0) = 10)
         ·rw [if_pos c29] at H
          (have c29b0 : (((rd_T65 t205 x5_1).f0) == 10) = true := beq_iff_eq.mpr c29); (have c29b1 : (((rd_T65 t205 x5_1).f0) != 10) = false := bne_eq_false_iff_eq.mpr c29); clear c29; (by_cases c30 : x3_1.size + 2 ≤ 9223372036854775807)
          ·rw [if_pos c30] at H
           (have c30b0 := eq_true c30); (have c30b1 : decide (x3_1.size + 2 ≤ 9223372036854775807) = true := decide_eq_true c30); (try have c30b2 : (9223372036854775807 < x3_1.size + 2) = False := eq_false (Nat.not_lt.2 c30)); (have H' := qM H); clear H; go_wp2; (repeat (go_quiet (fail); try go_wp2)); (go_roundg kj16)
           case measure => have := HK1.out; have := HJ16.out; omega
           case rel => exact ⟨(x3_1 ++ (⟨#[92, 110]⟩ : ByteArray)), (wrap64 (x5_1 + 1)), qV, qV, H', ⟨by have := HK1.out; have := HJ16.out; omega⟩, ⟨by (with_reducible repeat (first | apply Kd.R_alloc | apply Kd.R_drewN | apply Kd.R_drew)); exact HO_4.out⟩, ⟨qF⟩⟩
          ·rw [if_neg c30] at H
           exact absurd H (by simp)
         ·rw [if_neg c29] at H
          (have c29b0 : (((rd_T65 t205 x5_1).f0) == 10) = false := beq_eq_false_iff_ne.mpr c29); (have c29b1 : (((rd_T65 t205 x5_1).f0) != 10) = true := bne_iff_ne.mpr c29); (by_cases c31 : ((rd_T65 t205 x5_1).f0) = 13)
          ·rw [if_pos c31] at H
           (have c31b0 : (((rd_T65 t205 x5_1).f0) == 13) = true := beq_iff_eq.mpr c31); (have c31b1 : (((rd_T65 t205 x5_1).f0) != 13) = false := bne_eq_false_iff_eq.mpr c31); clear c31; (by_cases c32 : x3_1.size + 2 ≤ 9223372036854775807)
           ·rw [if_pos c32] at H
            (have c32b0 := eq_true c32); (have c32b1 : decide (x3_1.size + 2 ≤ 9223372036854775807) = true := decide_eq_true c32); (try have c32b2 : (9223372036854775807 < x3_1.size + 2) = False := eq_false (Nat.not_lt.2 c32)); (have H' := qM H); clear H; go_wp2; (repeat (go_quiet (fail); try go_wp2)); (go_roundg kj16)
            case measure => have := HK1.out; have := HJ16.out; omega
            case rel => exact ⟨(x3_1 ++ (⟨#[92, 114]⟩ : ByteArray)), (wrap64 (x5_1 + 1)), qV, qV, H', ⟨by have := HK1.out; have := HJ16.out; omega⟩, ⟨by (with_reducible repeat (first | apply Kd.R_alloc | apply Kd.R_drewN | apply Kd.R_drew)); exact HO_4.out⟩, ⟨qF⟩⟩
           ·rw [if_neg c32] at H
            exact absurd H (by simp)
          ·rw [if_neg c31] at H
           (have c31b0 : (((rd_T65 t205 x5_1).f0) == 13) = false := beq_eq_false_iff_ne.mpr c31); (have c31b1 : (((rd_T65 t205 x5_1).f0) != 13) = true := bne_iff_ne.mpr c31); (by_cases c33 : ((rd_T65 t205 x5_1).f0) = 9)
           ·rw [if_pos c33] at H
            (have c33b0 : (((rd_T65 t205 x5_1).f0) == 9) = true := beq_iff_eq.mpr c33); (have c33b1 : (((rd_T65 t205 x5_1).f0) != 9) = false := bne_eq_false_iff_eq.mpr c33); clear c33; (by_cases c34 : x3_1.size + 2 ≤ 9223372036854775807)
            ·rw [if_pos c34] at H
             (have c34b0 := eq_true c34); (have c34b1 : decide (x3_1.size + 2 ≤ 9223372036854775807) = true := decide_eq_true c34); (try have c34b2 : (9223372036854775807 < x3_1.size + 2) = False := eq_false (Nat.not_lt.2 c34)); (have H' := qM H); clear H; go_wp2; (repeat (go_quiet (fail); try go_wp2)); (go_roundg kj16)
             case measure => have := HK1.out; have := HJ16.out; omega
             case rel => exact ⟨(x3_1 ++ (⟨#[92, 116]⟩ : ByteArray)), (wrap64 (x5_1 + 1)), qV, qV, H', ⟨by have := HK1.out; have := HJ16.out; omega⟩, ⟨by (with_reducible repeat (first | apply Kd.R_alloc | apply Kd.R_drewN | apply Kd.R_drew)); exact HO_4.out⟩, ⟨qF⟩⟩
            ·rw [if_neg c34] at H
             exact absurd H (by simp)
           ·rw [if_neg c33] at H
            (have c33b0 : (((rd_T65 t205 x5_1).f0) == 9) = false := beq_eq_false_iff_ne.mpr c33); (have c33b1 : (((rd_T65 t205 x5_1).f0) != 9) = true := bne_iff_ne.mpr c33); (by_cases c35 : ((rd_T65 t205 x5_1).f0) ≥ 32)
            ·rw [if_pos c35] at H
             (have c35b0 : decide (32 ≤ ((rd_T65 t205 x5_1).f0)) = true := decide_eq_true c35); clear c35; (by_cases c36 : ((rd_T65 t205 x5_1).f0) ≤ 126)
             ·rw [if_pos c36] at H
              (have c36b0 : decide (((rd_T65 t205 x5_1).f0) ≤ 126) = true := decide_eq_true c36); clear c36; (by_cases c37 : 0 ≤ x5_1)
              ·rw [if_pos c37] at H
               (have c37b0 : decide (0 ≤ x5_1) = true := decide_eq_true c37); clear c37; (by_cases c38 : x5_1 < (t205.length : Int))
               ·rw [if_pos c38] at H
                (have c38b0 : decide (x5_1 < (t205.length : Int)) = true := decide_eq_true c38); clear c38; (by_cases c39 : 0 ≤ ((rd_T65 t205 x5_1).f1))
                ·rw [if_pos c39] at H
                 (have c39b0 := eq_true c39); (have c39b1 : decide (0 ≤ ((rd_T65 t205 x5_1).f1)) = true := decide_eq_true c39); clear c39; (by_cases c40 : ((rd_T65 t205 x5_1).f1) ≤ (wrap64 (((rd_T65 t205 x5_1).f1) + 1)))
                 ·rw [if_pos c40] at H
                  (have c40b0 := eq_true c40); (have c40b1 : decide (((rd_T65 t205 x5_1).f1) ≤ (wrap64 (((rd_T65 t205 x5_1).f1) + 1))) = true := decide_eq_true c40); (by_cases c41 : (wrap64 (((rd_T65 t205 x5_1).f1) + 1)) ≤ (a0.size : Int))
                  ·rw [if_pos c41] at H
                   (have c41b0 := eq_true c41); (have c41b1 : decide ((wrap64 (((rd_T65 t205 x5_1).f1) + 1)) ≤ (a0.size : Int)) = true := decide_eq_true c41); (by_cases c42 : x3_1.size + (a0.extract (((rd_T65 t205 x5_1).f1) : Int).toNat ((wrap64 (((rd_T65 t205 x5_1).f1) + 1)) : Int).toNat).size ≤ 9223372036854775807)
                   ·rw [if_pos c42] at H
                    (have c42b0 := eq_true c42); (have c42b1 : decide (x3_1.size + (a0.extract (((rd_T65 t205 x5_1).f1) : Int).toNat ((wrap64 (((rd_T65 t205 x5_1).f1) + 1)) : Int).toNat).size ≤ 9223372036854775807) = true := decide_eq_true c42); (try have c42b2 : (9223372036854775807 < x3_1.size + (a0.extract (((rd_T65 t205 x5_1).f1) : Int).toNat ((wrap64 (((rd_T65 t205 x5_1).f1) + 1)) : Int).toNat).size) = False := eq_false (Nat.not_lt.2 c42)); (try have c42b4 : (9223372036854775807 < x3_1.size + (((wrap64 (((rd_T65 t205 x5_1).f1) + 1)) : Int).toNat - (((rd_T65 t205 x5_1).f1) : Int).toNat)) = False := eq_false (Nat.not_lt.2 (by have h_ := c42; simp only [ByteArray.size_append, ByteArray.size_extract] at h_; omega))); (have H' := qM H); clear H; (have p215 : 0 ≤ (x5_1 : Int) := qo qX); (have q215 : x5_1 < (t205.length : Int) := qo qX); (obtain ⟨ad215, e215, hx215_0, hx215_1, hx215_2⟩ := at_T65 (Kd.R_reads' HO_4.out).2.2 x5_1 p215 q215); (obtain rfl : ad208 = ad215 := (by injection e215)); (replace p215 := eq_true p215); (replace q215 := eq_true q215); (have p216 : 0 ≤ (x5_1 : Int) := qo qX); (have q216 : x5_1 < (t205.length : Int) := qo qX); (obtain ⟨ad216, e216, hx216_0, hx216_1, hx216_2⟩ := at_T65 (Kd.R_reads' HO_4.out).2.2 x5_1 p216 q216); (obtain rfl : ad208 = ad216 := (by injection e216)); (replace p216 := eq_true p216); (replace q216 := eq_true q216); go_wp2; (repeat (go_quiet (fail); try go_wp2)); (go_roundg kj16)
                    case measure => have := HK1.out; have := HJ16.out; omega
                    case rel => exact ⟨(x3_1 ++ (a0.extract (((rd_T65 t205 x5_1).f1) : Int).toNat ((wrap64 (((rd_T65 t205 x5_1).f1) + 1)) : Int).toNat)), (wrap64 (x5_1 + 1)), qV, qV, H', ⟨by have := HK1.out; have := HJ16.out; omega⟩, ⟨by (with_reducible repeat (first | apply Kd.R_alloc | apply Kd.R_drewN | apply Kd.R_drew)); exact HO_4.out⟩, ⟨qF⟩⟩
                   ·rw [if_neg c42] at H
                    exact absurd H (by simp)
                  ·rw [if_neg c41] at H
                   exact absurd H (by simp)
                 ·rw [if_neg c40] at H
                  exact absurd H (by simp)
                ·rw [if_neg c39] at H
                 exact absurd H (by simp)
               ·rw [if_neg c38] at H
                exact absurd H (by simp)
              ·rw [if_neg c37] at H
               exact absurd H (by simp)
             ·rw [if_neg c36] at H
              (have c36b0 : decide (((rd_T65 t205 x5_1).f0) ≤ 126) = false := decide_eq_false c36); clear c36; (replace H := Option.bind_eq_some_iff.mp H); (obtain ⟨t217, A430, H⟩ := H); (replace H : (if 3 + t217.size ≤ 9223372036854775807 then (if ((⟨#[92, 117, 123]⟩ : ByteArray) ++ t217).size + 1 ≤ 9223372036854775807 then (if x3_1.size + (((⟨#[92, 117, 123]⟩ : ByteArray) ++ t217) ++ (⟨#[125]⟩ : ByteArray)).size ≤ 9223372036854775807 then (arboristref01_Quote.l0 kj16 a0 (x3_1 ++ (((⟨#[92, 117, 123]⟩ : ByteArray) ++ t217) ++ (⟨#[125]⟩ : ByteArray))) t205 (wrap64 (x5_1 + 1))) else (none)) else (none)) else (none)) = some r := H); (have A43 := qM A430); clear A430; (by_cases c44 : 3 + t217.size ≤ 9223372036854775807)
              ·rw [if_pos c44] at H
               (have c44b0 := eq_true c44); (have c44b1 : decide (3 + t217.size ≤ 9223372036854775807) = true := decide_eq_true c44); (try have c44b2 : (9223372036854775807 < 3 + t217.size) = False := eq_false (Nat.not_lt.2 c44)); (by_cases c45 : ((⟨#[92, 117, 123]⟩ : ByteArray) ++ t217).size + 1 ≤ 9223372036854775807)
               ·rw [if_pos c45] at H
                (have c45b0 := eq_true c45); (have c45b1 : decide (((⟨#[92, 117, 123]⟩ : ByteArray) ++ t217).size + 1 ≤ 9223372036854775807) = true := decide_eq_true c45); (try have c45b2 : (9223372036854775807 < ((⟨#[92, 117, 123]⟩ : ByteArray) ++ t217).size + 1) = False := eq_false (Nat.not_lt.2 c45)); (try have c45b3 : (9223372036854775807 < 3 + t217.size + 1) = False := eq_false (Nat.not_lt.2 (by have h_ := c45; simp only [ByteArray.size_append] at h_; exact h_))); (by_cases c46 : x3_1.size + (((⟨#[92, 117, 123]⟩ : ByteArray) ++ t217) ++ (⟨#[125]⟩ : ByteArray)).size ≤ 9223372036854775807)
                ·rw [if_pos c46] at H
                 (have c46b0 := eq_true c46); (have c46b1 : decide (x3_1.size + (((⟨#[92, 117, 123]⟩ : ByteArray) ++ t217) ++ (⟨#[125]⟩ : ByteArray)).size ≤ 9223372036854775807) = true := decide_eq_true c46); (try have c46b2 : (9223372036854775807 < x3_1.size + (((⟨#[92, 117, 123]⟩ : ByteArray) ++ t217) ++ (⟨#[125]⟩ : ByteArray)).size) = False := eq_false (Nat.not_lt.2 c46)); (try have c46b3 : (9223372036854775807 < x3_1.size + (3 + t217.size + 1)) = False := eq_false (Nat.not_lt.2 (by have h_ := c46; simp only [ByteArray.size_append] at h_; exact h_))); (have H' := qM H); clear H; (go_wp2_with (first | (go_at_call 63; (with_reducible refine (arboristref01_Hex.calls kj16 (wrap64 (((rd_T65 t205 x5_1).f0))) 1 t217 _ A43.out).mono ?_); rintro e w' ⟨rfl, ⟨nd, rfl⟩⟩; (try first | exact ⟨rfl, _, World.drewN_drewN _ _ _⟩ | exact ⟨rfl, _, Eq.trans (World.drewN_drewN _ _ _) (congrArg (World.drewN _) (Nat.add_assoc _ _ _))⟩)))); (repeat (go_quiet (first | (go_at_call 63; (with_reducible refine (arboristref01_Hex.calls kj16 (wrap64 (((rd_T65 t205 x5_1).f0))) 1 t217 _ A43.out).mono ?_); rintro e w' ⟨rfl, ⟨nd, rfl⟩⟩; (try first | exact ⟨rfl, _, World.drewN_drewN _ _ _⟩ | exact ⟨rfl, _, Eq.trans (World.drewN_drewN _ _ _) (congrArg (World.drewN _) (Nat.add_assoc _ _ _))⟩))); try go_wp2_with (first | (go_at_call 63; (with_reducible refine (arboristref01_Hex.calls kj16 (wrap64 (((rd_T65 t205 x5_1).f0))) 1 t217 _ A43.out).mono ?_); rintro e w' ⟨rfl, ⟨nd, rfl⟩⟩; (try first | exact ⟨rfl, _, World.drewN_drewN _ _ _⟩ | exact ⟨rfl, _, Eq.trans (World.drewN_drewN _ _ _) (congrArg (World.drewN _) (Nat.add_assoc _ _ _))⟩))))); (go_roundg kj16)
                 case measure => have := HK1.out; have := HJ16.out; omega
                 case rel => exact ⟨(x3_1 ++ (((⟨#[92, 117, 123]⟩ : ByteArray) ++ t217) ++ (⟨#[125]⟩ : ByteArray))), (wrap64 (x5_1 + 1)), qV, qV, H', ⟨by have := HK1.out; have := HJ16.out; omega⟩, ⟨by (with_reducible repeat (first | apply Kd.R_alloc | apply Kd.R_drewN | apply Kd.R_drew)); exact HO_4.out⟩, ⟨qF⟩⟩
                ·rw [if_neg c46] at H
                 exact absurd H (by simp)
               ·rw [if_neg c45] at H
                exact absurd H (by simp)
              ·rw [if_neg c44] at H
               exact absurd H (by simp)
            ·rw [if_neg c35] at H
             (have c35b0 : decide (32 ≤ ((rd_T65 t205 x5_1).f0)) = false := decide_eq_false c35); clear c35; (replace H := Option.bind_eq_some_iff.mp H); (obtain ⟨t218, A470, H⟩ := H); (replace H : (if 3 + t218.size ≤ 9223372036854775807 then (if ((⟨#[92, 117, 123]⟩ : ByteArray) ++ t218).size + 1 ≤ 9223372036854775807 then (if x3_1.size + (((⟨#[92, 117, 123]⟩ : ByteArray) ++ t218) ++ (⟨#[125]⟩ : ByteArray)).size ≤ 9223372036854775807 then (arboristref01_Quote.l0 kj16 a0 (x3_1 ++ (((⟨#[92, 117, 123]⟩ : ByteArray) ++ t218) ++ (⟨#[125]⟩ : ByteArray))) t205 (wrap64 (x5_1 + 1))) else (none)) else (none)) else (none)) = some r := H); (have A47 := qM A470); clear A470; (by_cases c48 : 3 + t218.size ≤ 9223372036854775807)
             ·rw [if_pos c48] at H
              (have c48b0 := eq_true c48); (have c48b1 : decide (3 + t218.size ≤ 9223372036854775807) = true := decide_eq_true c48); (try have c48b2 : (9223372036854775807 < 3 + t218.size) = False := eq_false (Nat.not_lt.2 c48)); (by_cases c49 : ((⟨#[92, 117, 123]⟩ : ByteArray) ++ t218).size + 1 ≤ 9223372036854775807)
              ·rw [if_pos c49] at H
               (have c49b0 := eq_true c49); (have c49b1 : decide (((⟨#[92, 117, 123]⟩ : ByteArray) ++ t218).size + 1 ≤ 9223372036854775807) = true := decide_eq_true c49); (try have c49b2 : (9223372036854775807 < ((⟨#[92, 117, 123]⟩ : ByteArray) ++ t218).size + 1) = False := eq_false (Nat.not_lt.2 c49)); (try have c49b3 : (9223372036854775807 < 3 + t218.size + 1) = False := eq_false (Nat.not_lt.2 (by have h_ := c49; simp only [ByteArray.size_append] at h_; exact h_))); (by_cases c50 : x3_1.size + (((⟨#[92, 117, 123]⟩ : ByteArray) ++ t218) ++ (⟨#[125]⟩ : ByteArray)).size ≤ 9223372036854775807)
               ·rw [if_pos c50] at H
                (have c50b0 := eq_true c50); (have c50b1 : decide (x3_1.size + (((⟨#[92, 117, 123]⟩ : ByteArray) ++ t218) ++ (⟨#[125]⟩ : ByteArray)).size ≤ 9223372036854775807) = true := decide_eq_true c50); (try have c50b2 : (9223372036854775807 < x3_1.size + (((⟨#[92, 117, 123]⟩ : ByteArray) ++ t218) ++ (⟨#[125]⟩ : ByteArray)).size) = False := eq_false (Nat.not_lt.2 c50)); (try have c50b3 : (9223372036854775807 < x3_1.size + (3 + t218.size + 1)) = False := eq_false (Nat.not_lt.2 (by have h_ := c50; simp only [ByteArray.size_append] at h_; exact h_))); (have H' := qM H); clear H; (go_wp2_with (first | (go_at_call 63; (with_reducible refine (arboristref01_Hex.calls kj16 (wrap64 (((rd_T65 t205 x5_1).f0))) 1 t218 _ A47.out).mono ?_); rintro e w' ⟨rfl, ⟨nd, rfl⟩⟩; (try first | exact ⟨rfl, _, World.drewN_drewN _ _ _⟩ | exact ⟨rfl, _, Eq.trans (World.drewN_drewN _ _ _) (congrArg (World.drewN _) (Nat.add_assoc _ _ _))⟩)))); (repeat (go_quiet (first | (go_at_call 63; (with_reducible refine (arboristref01_Hex.calls kj16 (wrap64 (((rd_T65 t205 x5_1).f0))) 1 t218 _ A47.out).mono ?_); rintro e w' ⟨rfl, ⟨nd, rfl⟩⟩; (try first | exact ⟨rfl, _, World.drewN_drewN _ _ _⟩ | exact ⟨rfl, _, Eq.trans (World.drewN_drewN _ _ _) (congrArg (World.drewN _) (Nat.add_assoc _ _ _))⟩))); try go_wp2_with (first | (go_at_call 63; (with_reducible refine (arboristref01_Hex.calls kj16 (wrap64 (((rd_T65 t205 x5_1).f0))) 1 t218 _ A47.out).mono ?_); rintro e w' ⟨rfl, ⟨nd, rfl⟩⟩; (try first | exact ⟨rfl, _, World.drewN_drewN _ _ _⟩ | exact ⟨rfl, _, Eq.trans (World.drewN_drewN _ _ _) (congrArg (World.drewN _) (Nat.add_assoc _ _ _))⟩))))); (go_roundg kj16)
                case measure => have := HK1.out; have := HJ16.out; omega
                case rel => exact ⟨(x3_1 ++ (((⟨#[92, 117, 123]⟩ : ByteArray) ++ t218) ++ (⟨#[125]⟩ : ByteArray))), (wrap64 (x5_1 + 1)), qV, qV, H', ⟨by have := HK1.out; have := HJ16.out; omega⟩, ⟨by (with_reducible repeat (first | apply Kd.R_alloc | apply Kd.R_drewN | apply Kd.R_drew)); exact HO_4.out⟩, ⟨qF⟩⟩
               ·rw [if_neg c50] at H
                exact absurd H (by simp)
              ·rw [if_neg c49] at H
               exact absurd H (by simp)
             ·rw [if_neg c48] at H
              exact absurd H (by simp)
    ·rw [if_neg c5] at H
     exact absurd H (by simp)
   ·rw [if_neg c4] at H
    (have c4b0 : decide (x5_1 < (t205.length : Int)) = false := decide_eq_false c4); clear c4; (by_cases c51 : x3_1.size + 1 ≤ 9223372036854775807)
    ·rw [if_pos c51] at H
     (have c51b0 := eq_true c51); (have c51b1 : decide (x3_1.size + 1 ≤ 9223372036854775807) = true := decide_eq_true c51); (try have c51b2 : (9223372036854775807 < x3_1.size + 1) = False := eq_false (Nat.not_lt.2 c51)); (obtain rfl := Option.some.inj H); (obtain ⟨Ao52, co52, eo52⟩ := Kd.R_slice HO_4.out); subst eo52; go_wp2; (repeat (go_quiet (fail); try go_wp2)); (go_ret); (exact ⟨qE, qF⟩)
    ·rw [if_neg c51] at H
     exact absurd H (by simp)
def speclex_letter.f (a0 : Int) : Option (Bool) := if (Go.bits .or .u8 a0 32) ≥ 97 then (if (Go.bits .or .u8 a0 32) ≤ 122 then (some true) else (some (a0 == 95))) else (some (a0 == 95))
set_option maxHeartbeats 8000000 in
set_option maxRecDepth 100000 in
theorem speclex_letter.calls (a0 : Int) (r : Bool) (w : World) (h : speclex_letter.f a0 = some r) :
  Calls Tryd.prog 15 #[.int .u8 a0] w fun e w' => e = .returned (.bool r) ∧ Drawn0 w w' := by
 (have H : (if (Go.bits .or .u8 a0 32) ≥ 97 then (if (Go.bits .or .u8 a0 32) ≤ 122 then (some true) else (some (a0 == 95))) else (some (a0 == 95))) = some r := h); clear h; (by_cases c2 : (Go.bits .or .u8 a0 32) ≥ 97)
 ·rw [if_pos c2] at H
  (have c2b0 : decide (97 ≤ (Go.bits .or .u8 a0 32)) = true := decide_eq_true c2); clear c2; (by_cases c3 : (Go.bits .or .u8 a0 32) ≤ 122)
  ·rw [if_pos c3] at H
   (have c3b0 : decide ((Go.bits .or .u8 a0 32) ≤ 122) = true := decide_eq_true c3); clear c3; (obtain rfl := Option.some.inj H); (go_enter Tryd.func15, Tryd.ntmps15); go_wp2; (go_ret); (exact ⟨qV, by repeat (first | exact Drawn0.refl _ | apply Drawn0.step)⟩)
  ·rw [if_neg c3] at H
   (have c3b0 : decide ((Go.bits .or .u8 a0 32) ≤ 122) = false := decide_eq_false c3); clear c3; (obtain rfl := Option.some.inj H); (go_enter Tryd.func15, Tryd.ntmps15); go_wp2; (go_ret); (exact ⟨qV, by repeat (first | exact Drawn0.refl _ | apply Drawn0.step)⟩)
 ·rw [if_neg c2] at H
  (have c2b0 : decide (97 ≤ (Go.bits .or .u8 a0 32)) = false := decide_eq_false c2); clear c2; (obtain rfl := Option.some.inj H); (go_enter Tryd.func15, Tryd.ntmps15); go_wp2; (go_ret); (exact ⟨qV, by repeat (first | exact Drawn0.refl _ | apply Drawn0.step)⟩)
def arboristref11_text.f (k : Nat) (a0_0 : Int) (a0_1 : ByteArray) (a0_2 : Int) : Option (ByteArray) := if a0_0 = 2 then ((arboristref01_Quote.f k a0_1).bind fun t220 => (some t220)) else (if a0_0 = 3 then (if 1 + a0_1.size ≤ 9223372036854775807 then (if ((⟨#[47]⟩ : ByteArray) ++ a0_1).size + 1 ≤ 9223372036854775807 then (some (((⟨#[47]⟩ : ByteArray) ++ a0_1) ++ (⟨#[47]⟩ : ByteArray))) else (none)) else (none)) else (some a0_1))
set_option maxHeartbeats 8000000 in
set_option maxRecDepth 100000 in
theorem arboristref11_text.calls (k : Nat) (a0_0 : Int) (a0_1 : ByteArray) (a0_2 : Int) (r : ByteArray) (w : World) (h : arboristref11_text.f k a0_0 a0_1 a0_2 = some r) :
  Calls Tryd.prog 24 #[.agg #[.int .i64 a0_0, .string a0_1, .int .i64 a0_2]] w fun e w' => e = .returned (.string r) ∧ Below w.heap.size w w' := by
 (have hu32 := Tryd.underlying32); (have HB := qM (Below.refl w.heap.size w)); (have H : (if a0_0 = 2 then ((arboristref01_Quote.f k a0_1).bind fun t220 => (some t220)) else (if a0_0 = 3 then (if 1 + a0_1.size ≤ 9223372036854775807 then (if ((⟨#[47]⟩ : ByteArray) ++ a0_1).size + 1 ≤ 9223372036854775807 then (some (((⟨#[47]⟩ : ByteArray) ++ a0_1) ++ (⟨#[47]⟩ : ByteArray))) else (none)) else (none)) else (some a0_1))) = some r := h); clear h; (by_cases c2 : a0_0 = 2)
 ·rw [if_pos c2] at H
  (have c2b0 : (a0_0 == 2) = true := beq_iff_eq.mpr c2); (have c2b1 : (a0_0 != 2) = false := bne_eq_false_iff_eq.mpr c2); clear c2; (replace H := Option.bind_eq_some_iff.mp H); (obtain ⟨t220, A30, H⟩ := H); (replace H : (some t220) = some r := H); (have A3 := qM A30); clear A30; (obtain rfl := Option.some.inj H); (go_enter Tryd.func24, Tryd.ntmps24)
  go_wp2_with (first | ((with_reducible refine gate_dst (N := 1) rfl ?_); refine box_event ?hg (N := 1) ?hd (cs := #[.int .i64 a0_0, .string a0_1, .int .i64 a0_2]) (t := 32) ?hr ?_; (case hd => rfl); (case hg => rfl); (case hr => first | (go_simp; done) | (go_simp; rfl)); intro gb219 hg w4 hbox hb; have n0_ := qM (qP qF hb); have n1_ := qM (hbox); have n2_ := qM ((by rw [hg]; exact (qZ qF) : w.heap.size ≤ gb219)); have n3_ := qM ((by rw [hg]; exact (qZ qF) : w.heap.size ≤ gb219)); clear HB; have HB := n0_; have BK219 := n1_; have GW219 := n2_; have GE219 := n3_; clear n0_ n1_ n2_ n3_; clear hb hbox hg; obtain ⟨hcz5_0, hcz5_1, hcz5_2, hfz5_0, hfz5_1, hfz5_2⟩ := bx3 BK219.out) | ((with_reducible refine gate_callee (f := 41) rfl ?_); refine goesL_ (some 9) rfl rfl Tryd.func41 (by kernel_rfl) rfl #[.string a0_1] rfl (by (try simp only [List.map_toArray, List.map_cons, List.map_nil]); first | done | rfl | (simp only [List.length_drop, List.length_take]; rfl)) ?_; (with_reducible refine (arboristref01_Quote.calls k a0_1 t220 _ A3.out).mono ?_); rintro e w6 ⟨rfl, hb⟩; refine ⟨_, rfl, ?_⟩; have n0_ := qM (qb (g := gb219) qK hb); have n1_ := qM (qP qF hb); clear BK219; clear HB; have BK219 := n0_; have HB := n1_; clear n0_ n1_; (try clear hb); (try clear hb2); (try clear hk); (try clear hi)))
  (go_ret); (exact ⟨qE, qF⟩)
 ·rw [if_neg c2] at H
  (have c2b0 : (a0_0 == 2) = false := beq_eq_false_iff_ne.mpr c2); (have c2b1 : (a0_0 != 2) = true := bne_iff_ne.mpr c2); (by_cases c7 : a0_0 = 3)
  ·rw [if_pos c7] at H
   (have c7b0 : (a0_0 == 3) = true := beq_iff_eq.mpr c7); (have c7b1 : (a0_0 != 3) = false := bne_eq_false_iff_eq.mpr c7); clear c7; (by_cases c8 : 1 + a0_1.size ≤ 9223372036854775807)
   ·rw [if_pos c8] at H
    (have c8b0 := eq_true c8); (have c8b1 : decide (1 + a0_1.size ≤ 9223372036854775807) = true := decide_eq_true c8); (try have c8b2 : (9223372036854775807 < 1 + a0_1.size) = False := eq_false (Nat.not_lt.2 c8)); (by_cases c9 : ((⟨#[47]⟩ : ByteArray) ++ a0_1).size + 1 ≤ 9223372036854775807)
    ·rw [if_pos c9] at H
     (have c9b0 := eq_true c9); (have c9b1 : decide (((⟨#[47]⟩ : ByteArray) ++ a0_1).size + 1 ≤ 9223372036854775807) = true := decide_eq_true c9); (try have c9b2 : (9223372036854775807 < ((⟨#[47]⟩ : ByteArray) ++ a0_1).size + 1) = False := eq_false (Nat.not_lt.2 c9)); (try have c9b3 : (9223372036854775807 < 1 + a0_1.size + 1) = False := eq_false (Nat.not_lt.2 (by have h_ := c9; simp only [ByteArray.size_append] at h_; exact h_))); (obtain rfl := Option.some.inj H); (go_enter Tryd.func24, Tryd.ntmps24)
     go_wp2_with (first | ((with_reducible refine gate_dst (N := 1) rfl ?_); refine box_event ?hg (N := 1) ?hd (cs := #[.int .i64 a0_0, .string a0_1, .int .i64 a0_2]) (t := 32) ?hr ?_; (case hd => rfl); (case hg => rfl); (case hr => first | (go_simp; done) | (go_simp; rfl)); intro gb219 hg w10 hbox hb; have n0_ := qM (qP qF hb); have n1_ := qM (hbox); have n2_ := qM ((by rw [hg]; exact (qZ qF) : w.heap.size ≤ gb219)); have n3_ := qM ((by rw [hg]; exact (qZ qF) : w.heap.size ≤ gb219)); clear HB; have HB := n0_; have BK219 := n1_; have GW219 := n2_; have GE219 := n3_; clear n0_ n1_ n2_ n3_; clear hb hbox hg; obtain ⟨hcz11_0, hcz11_1, hcz11_2, hfz11_0, hfz11_1, hfz11_2⟩ := bx3 BK219.out))
     (go_ret); (exact ⟨qE, qF⟩)
    ·rw [if_neg c9] at H
     exact absurd H (by simp)
   ·rw [if_neg c8] at H
    exact absurd H (by simp)
  ·rw [if_neg c7] at H
   (have c7b0 : (a0_0 == 3) = false := beq_eq_false_iff_ne.mpr c7); (have c7b1 : (a0_0 != 3) = true := bne_iff_ne.mpr c7); (obtain rfl := Option.some.inj H); (go_enter Tryd.func24, Tryd.ntmps24)
   go_wp2_with (first | ((with_reducible refine gate_dst (N := 1) rfl ?_); refine box_event ?hg (N := 1) ?hd (cs := #[.int .i64 a0_0, .string a0_1, .int .i64 a0_2]) (t := 32) ?hr ?_; (case hd => rfl); (case hg => rfl); (case hr => first | (go_simp; done) | (go_simp; rfl)); intro gb219 hg w12 hbox hb; have n0_ := qM (qP qF hb); have n1_ := qM (hbox); have n2_ := qM ((by rw [hg]; exact (qZ qF) : w.heap.size ≤ gb219)); have n3_ := qM ((by rw [hg]; exact (qZ qF) : w.heap.size ≤ gb219)); clear HB; have HB := n0_; have BK219 := n1_; have GW219 := n2_; have GE219 := n3_; clear n0_ n1_ n2_ n3_; clear hb hbox hg; obtain ⟨hcz13_0, hcz13_1, hcz13_2, hfz13_0, hfz13_1, hfz13_2⟩ := bx3 BK219.out))
   (go_ret); (exact ⟨qE, qF⟩)
def arboristref11_Show.l0 : Nat → List (S32) → ByteArray → Int → Option (ByteArray)
 | 0, _, _, _ => none
 | k + 1, x0, x3, x4 => if x4 < (x0.length : Int) then (if x4 > 0 then (if 0 ≤ (wrap64 (x4 - 1)) then (if (wrap64 (x4 - 1)) < (x0.length : Int) then (if ((rd_T32 x0 (wrap64 (x4 - 1))).f0) = 6 then (if (((rd_T32 x0 (wrap64 (x4 - 1))).f1).toList = ([35] : List UInt8)) then (if 0 ≤ x4 then ((arboristref11_text.f k ((rd_T32 x0 x4).f0) ((rd_T32 x0 x4).f1) ((rd_T32 x0 x4).f2)).bind fun t224 => (if x3.size + t224.size ≤ 9223372036854775807 then (arboristref11_Show.l0 k x0 (x3 ++ t224) (wrap64 (x4 + 1))) else (none))) else (none)) else (if x3.size + 1 ≤ 9223372036854775807 then (if 0 ≤ x4 then ((arboristref11_text.f k ((rd_T32 x0 x4).f0) ((rd_T32 x0 x4).f1) ((rd_T32 x0 x4).f2)).bind fun t226 => (if (x3 ++ (⟨#[32]⟩ : ByteArray)).size + t226.size ≤ 9223372036854775807 then (arboristref11_Show.l0 k x0 ((x3 ++ (⟨#[32]⟩ : ByteArray)) ++ t226) (wrap64 (x4 + 1))) else (none))) else (none)) else (none))) else (if x3.size + 1 ≤ 9223372036854775807 then (if 0 ≤ x4 then ((arboristref11_text.f k ((rd_T32 x0 x4).f0) ((rd_T32 x0 x4).f1) ((rd_T32 x0 x4).f2)).bind fun t228 => (if (x3 ++ (⟨#[32]⟩ : ByteArray)).size + t228.size ≤ 9223372036854775807 then (arboristref11_Show.l0 k x0 ((x3 ++ (⟨#[32]⟩ : ByteArray)) ++ t228) (wrap64 (x4 + 1))) else (none))) else (none)) else (none))) else (none)) else (none)) else (if 0 ≤ x4 then ((arboristref11_text.f k ((rd_T32 x0 x4).f0) ((rd_T32 x0 x4).f1) ((rd_T32 x0 x4).f2)).bind fun t230 => (if x3.size + t230.size ≤ 9223372036854775807 then (arboristref11_Show.l0 k x0 (x3 ++ t230) (wrap64 (x4 + 1))) else (none))) else (none))) else (some x3)
def arboristref11_Show.f (k : Nat) (l0 : List (S32)) : Option (ByteArray) := arboristref11_Show.l0 k l0 (⟨#[]⟩ : ByteArray) 0
set_option maxHeartbeats 8000000 in
set_option maxRecDepth 100000 in
theorem arboristref11_Show.calls (k : Nat) (A0 : Option Addr) (c0 : Nat) (l0 : List (S32)) (r : ByteArray) (w : World) (hr0 : Kd.C k32 w A0 l0.length l0) (hc0 : l0.length ≤ c0) (h : arboristref11_Show.f k l0 = some r) :
  Calls Tryd.prog 13 #[.slice A0 l0.length c0] w fun e w' => e = .returned (.string r) ∧ Below w.heap.size w w' := by
 (have hu32 := Tryd.underlying32); (have HR0 := qM hr0); (have HC0 := qM hc0); clear hr0 hc0; (have HB := qM (Below.refl w.heap.size w)); (have H : (arboristref11_Show.l0 k l0 (⟨#[]⟩ : ByteArray) 0) = some r := h); clear h; (have H' := qM H); clear H; (go_enter Tryd.func13, Tryd.ntmps13); go_wp2; (go_loopg [3, 4] k (fun kq v3 v4 w' => ∃ (x3_1 : ByteArray) (x4_1 : Int), v3 = .string x3_1 ∧ v4 = .int .i64 x4_1 ∧ Aside0 (arboristref11_Show.l0 kq l0 x3_1 x4_1 = some r) ∧ Aside0 (kq ≤ k) ∧ Aside0 (Below w.heap.size w w')))
 case atStart => exact ⟨((⟨#[]⟩ : ByteArray)), (0), qV, qV, H', ⟨Nat.le_refl _⟩, ⟨qF⟩⟩
 case round =>
  (clear H'); (try clear c1); (obtain ⟨x3_1, x4_1, rfl, rfl, HA, HK1, HB⟩ := hrel)
  cases gk with
  | zero => exact absurd HA.out (by simp [arboristref11_Show.l0])
  | succ k1 =>
   (have H := HA.out); clear HA; (simp only [arboristref11_Show.l0] at H); (by_cases c2 : x4_1 < (l0.length : Int))
   ·rw [if_pos c2] at H
    (have c2b0 : decide (x4_1 < (l0.length : Int)) = true := decide_eq_true c2); clear c2; (by_cases c3 : x4_1 > 0)
    ·rw [if_pos c3] at H
     (have c3b0 : decide (0 < x4_1) = true := decide_eq_true c3); clear c3; (obtain ⟨ji4, hji4⟩ : ∃ j_ : Int, (wrap64 (x4_1 - 1)) = j_ := ⟨_, rfl⟩)
     replace H : (if 0 ≤ (ji4) then (if (ji4) < (l0.length : Int) then (if ((rd_T32 l0 (ji4)).f0) = 6 then (if (((rd_T32 l0 (ji4)).f1).toList = ([35] : List UInt8)) then (if 0 ≤ x4_1 then ((arboristref11_text.f k1 ((rd_T32 l0 x4_1).f0) ((rd_T32 l0 x4_1).f1) ((rd_T32 l0 x4_1).f2)).bind fun t224 => (if x3_1.size + t224.size ≤ 9223372036854775807 then (arboristref11_Show.l0 k1 l0 (x3_1 ++ t224) (wrap64 (x4_1 + 1))) else (none))) else (none)) else (if x3_1.size + 1 ≤ 9223372036854775807 then (if 0 ≤ x4_1 then ((arboristref11_text.f k1 ((rd_T32 l0 x4_1).f0) ((rd_T32 l0 x4_1).f1) ((rd_T32 l0 x4_1).f2)).bind fun t226 => (if (x3_1 ++ (⟨#[32]⟩ : ByteArray)).size + t226.size ≤ 9223372036854775807 then (arboristref11_Show.l0 k1 l0 ((x3_1 ++ (⟨#[32]⟩ : ByteArray)) ++ t226) (wrap64 (x4_1 + 1))) else (none))) else (none)) else (none))) else (if x3_1.size + 1 ≤ 9223372036854775807 then (if 0 ≤ x4_1 then ((arboristref11_text.f k1 ((rd_T32 l0 x4_1).f0) ((rd_T32 l0 x4_1).f1) ((rd_T32 l0 x4_1).f2)).bind fun t228 => (if (x3_1 ++ (⟨#[32]⟩ : ByteArray)).size + t228.size ≤ 9223372036854775807 then (arboristref11_Show.l0 k1 l0 ((x3_1 ++ (⟨#[32]⟩ : ByteArray)) ++ t228) (wrap64 (x4_1 + 1))) else (none))) else (none)) else (none))) else (none)) else (none)) = some r := by first | (rw [hji4] at H; exact H) | (simp only [hji4] at H ⊢; exact H)
     (have hji4w : (IntKind.i64.wrap (x4_1 - 1)) = ji4 := (i64_w _).trans hji4); (by_cases c5 : 0 ≤ (ji4))
     ·rw [if_pos c5] at H
      (have c5b0 : decide (0 ≤ (ji4)) = true := decide_eq_true c5); clear c5; (by_cases c6 : (ji4) < (l0.length : Int))
      ·rw [if_pos c6] at H
       (have c6b0 : decide ((ji4) < (l0.length : Int)) = true := decide_eq_true c6); clear c6; (by_cases c7 : ((rd_T32 l0 (ji4)).f0) = 6)
       ·rw [if_pos c7] at H
        (have c7b0 : (((rd_T32 l0 (ji4)).f0) == 6) = true := beq_iff_eq.mpr c7); (have c7b1 : (((rd_T32 l0 (ji4)).f0) != 6) = false := bne_eq_false_iff_eq.mpr c7); clear c7; (by_cases c8 : (((rd_T32 l0 (ji4)).f1).toList = ([35] : List UInt8)))
        ·rw [if_pos c8] at H
         (have c8b0 : (((rd_T32 l0 (ji4)).f1).toList == ([35] : List UInt8)) = true := beq_iff_eq.mpr c8); (have c8b1 : (((rd_T32 l0 (ji4)).f1).toList != ([35] : List UInt8)) = false := bne_eq_false_iff_eq.mpr c8); clear c8; (by_cases c9 : 0 ≤ x4_1)
         ·rw [if_pos c9] at H
          (have c9b0 : decide (0 ≤ x4_1) = true := decide_eq_true c9); clear c9; (replace H := Option.bind_eq_some_iff.mp H); (obtain ⟨t224, A100, H⟩ := H); (replace H : (if x3_1.size + t224.size ≤ 9223372036854775807 then (arboristref11_Show.l0 k1 l0 (x3_1 ++ t224) (wrap64 (x4_1 + 1))) else (none)) = some r := H); (have A10 := qM A100); clear A100; (by_cases c11 : x3_1.size + t224.size ≤ 9223372036854775807)
          ·rw [if_pos c11] at H
           (have c11b0 := eq_true c11); (have c11b1 : decide (x3_1.size + t224.size ≤ 9223372036854775807) = true := decide_eq_true c11); (try have c11b2 : (9223372036854775807 < x3_1.size + t224.size) = False := eq_false (Nat.not_lt.2 c11)); (have H' := qM H); clear H; (have p221 : 0 ≤ ((ji4) : Int) := qo qX); (have q221 : (ji4) < (l0.length : Int) := qo qX); (obtain ⟨ad221, e221, hx221_0, hx221_1, hx221_2⟩ := at_T32 HR0.out (ji4) p221 q221)
           cases e221
           (replace hx221_0 := (HB.out.cell (qB w _ hx221_0)).trans hx221_0); (replace hx221_1 := (HB.out.cell (qB w _ hx221_1)).trans hx221_1); (replace hx221_2 := (HB.out.cell (qB w _ hx221_2)).trans hx221_2); (replace p221 := eq_true p221); (replace q221 := eq_true q221); (have p222 : 0 ≤ ((ji4) : Int) := qo qX); (have q222 : (ji4) < (l0.length : Int) := qo qX); (obtain ⟨ad222, e222, hx222_0, hx222_1, hx222_2⟩ := at_T32 HR0.out (ji4) p222 q222); (obtain rfl : ad221 = ad222 := (by injection e222)); (replace hx222_0 := (HB.out.cell (qB w _ hx222_0)).trans hx222_0); (replace hx222_1 := (HB.out.cell (qB w _ hx222_1)).trans hx222_1); (replace hx222_2 := (HB.out.cell (qB w _ hx222_2)).trans hx222_2); (replace p222 := eq_true p222); (replace q222 := eq_true q222); (have p223 : 0 ≤ (x4_1 : Int) := qo qX); (have q223 : x4_1 < (l0.length : Int) := qo qX); (obtain ⟨ad223, e223, hx223_0, hx223_1, hx223_2⟩ := at_T32 HR0.out x4_1 p223 q223); (obtain rfl : ad221 = ad223 := (by injection e223)); (replace hx223_0 := (HB.out.cell (qB w _ hx223_0)).trans hx223_0); (replace hx223_1 := (HB.out.cell (qB w _ hx223_1)).trans hx223_1); (replace hx223_2 := (HB.out.cell (qB w _ hx223_2)).trans hx223_2); (replace p223 := eq_true p223); (replace q223 := eq_true q223)
           go_wp2_with (first | ((with_reducible refine gate_callee (f := 24) rfl ?_); refine goesL_ (some 39) rfl rfl Tryd.func24 (by kernel_rfl) rfl #[.agg #[.int .i64 ((rd_T32 l0 x4_1).f0), .string ((rd_T32 l0 x4_1).f1), .int .i64 ((rd_T32 l0 x4_1).f2)]] rfl (by (try simp only [List.map_toArray, List.map_cons, List.map_nil]); first | done | rfl | (simp only [List.length_drop, List.length_take]; rfl)) ?_; (with_reducible refine (arboristref11_text.calls k1 ((rd_T32 l0 x4_1).f0) ((rd_T32 l0 x4_1).f1) ((rd_T32 l0 x4_1).f2) t224 _ A10.out).mono ?_); rintro e w12 ⟨rfl, hb⟩; refine ⟨_, rfl, ?_⟩; have n0_ := qM (qP qF hb); clear HB; have HB := n0_; clear n0_; (try clear hb); (try clear hb2); (try clear hk); (try clear hi)))
           go_roundg k1
           case measure => have := HK1.out; omega
           case rel => exact ⟨(x3_1 ++ t224), (wrap64 (x4_1 + 1)), qV, qV, H', ⟨by have := HK1.out; omega⟩, ⟨qF⟩⟩
          ·rw [if_neg c11] at H
           exact absurd H (by simp)
         ·rw [if_neg c9] at H
          exact absurd H (by simp)
        ·rw [if_neg c8] at H
         (have c8b0 : (((rd_T32 l0 (ji4)).f1).toList == ([35] : List UInt8)) = false := beq_eq_false_iff_ne.mpr c8); (have c8b1 : (((rd_T32 l0 (ji4)).f1).toList != ([35] : List UInt8)) = true := bne_iff_ne.mpr c8); (by_cases c13 : x3_1.size + 1 ≤ 9223372036854775807)
         ·rw [if_pos c13] at H
          (have c13b0 := eq_true c13); (have c13b1 : decide (x3_1.size + 1 ≤ 9223372036854775807) = true := decide_eq_true c13); (try have c13b2 : (9223372036854775807 < x3_1.size + 1) = False := eq_false (Nat.not_lt.2 c13)); (by_cases c14 : 0 ≤ x4_1)
          ·rw [if_pos c14] at H
           (have c14b0 : decide (0 ≤ x4_1) = true := decide_eq_true c14); clear c14; (replace H := Option.bind_eq_some_iff.mp H); (obtain ⟨t226, A150, H⟩ := H); (replace H : (if (x3_1 ++ (⟨#[32]⟩ : ByteArray)).size + t226.size ≤ 9223372036854775807 then (arboristref11_Show.l0 k1 l0 ((x3_1 ++ (⟨#[32]⟩ : ByteArray)) ++ t226) (wrap64 (x4_1 + 1))) else (none)) = some r := H); (have A15 := qM A150); clear A150; (by_cases c16 : (x3_1 ++ (⟨#[32]⟩ : ByteArray)).size + t226.size ≤ 9223372036854775807)
           ·rw [if_pos c16] at H
            (have c16b0 := eq_true c16); (have c16b1 : decide ((x3_1 ++ (⟨#[32]⟩ : ByteArray)).size + t226.size ≤ 9223372036854775807) = true := decide_eq_true c16); (try have c16b2 : (9223372036854775807 < (x3_1 ++ (⟨#[32]⟩ : ByteArray)).size + t226.size) = False := eq_false (Nat.not_lt.2 c16)); (try have c16b3 : (9223372036854775807 < x3_1.size + 1 + t226.size) = False := eq_false (Nat.not_lt.2 (by have h_ := c16; simp only [ByteArray.size_append] at h_; exact h_))); (have H' := qM H); clear H; (have p221 : 0 ≤ ((ji4) : Int) := qo qX); (have q221 : (ji4) < (l0.length : Int) := qo qX); (obtain ⟨ad221, e221, hx221_0, hx221_1, hx221_2⟩ := at_T32 HR0.out (ji4) p221 q221)
            cases e221
            (replace hx221_0 := (HB.out.cell (qB w _ hx221_0)).trans hx221_0); (replace hx221_1 := (HB.out.cell (qB w _ hx221_1)).trans hx221_1); (replace hx221_2 := (HB.out.cell (qB w _ hx221_2)).trans hx221_2); (replace p221 := eq_true p221); (replace q221 := eq_true q221); (have p222 : 0 ≤ ((ji4) : Int) := qo qX); (have q222 : (ji4) < (l0.length : Int) := qo qX); (obtain ⟨ad222, e222, hx222_0, hx222_1, hx222_2⟩ := at_T32 HR0.out (ji4) p222 q222); (obtain rfl : ad221 = ad222 := (by injection e222)); (replace hx222_0 := (HB.out.cell (qB w _ hx222_0)).trans hx222_0); (replace hx222_1 := (HB.out.cell (qB w _ hx222_1)).trans hx222_1); (replace hx222_2 := (HB.out.cell (qB w _ hx222_2)).trans hx222_2); (replace p222 := eq_true p222); (replace q222 := eq_true q222); (have p225 : 0 ≤ (x4_1 : Int) := qo qX); (have q225 : x4_1 < (l0.length : Int) := qo qX); (obtain ⟨ad225, e225, hx225_0, hx225_1, hx225_2⟩ := at_T32 HR0.out x4_1 p225 q225); (obtain rfl : ad221 = ad225 := (by injection e225)); (replace hx225_0 := (HB.out.cell (qB w _ hx225_0)).trans hx225_0); (replace hx225_1 := (HB.out.cell (qB w _ hx225_1)).trans hx225_1); (replace hx225_2 := (HB.out.cell (qB w _ hx225_2)).trans hx225_2); (replace p225 := eq_true p225); (replace q225 := eq_true q225)
            go_wp2_with (first | ((with_reducible refine gate_callee (f := 24) rfl ?_); refine goesL_ (some 39) rfl rfl Tryd.func24 (by kernel_rfl) rfl #[.agg #[.int .i64 ((rd_T32 l0 x4_1).f0), .string ((rd_T32 l0 x4_1).f1), .int .i64 ((rd_T32 l0 x4_1).f2)]] rfl (by (try simp only [List.map_toArray, List.map_cons, List.map_nil]); first | done | rfl | (simp only [List.length_drop, List.length_take]; rfl)) ?_; (with_reducible refine (arboristref11_text.calls k1 ((rd_T32 l0 x4_1).f0) ((rd_T32 l0 x4_1).f1) ((rd_T32 l0 x4_1).f2) t226 _ A15.out).mono ?_); rintro e w17 ⟨rfl, hb⟩; refine ⟨_, rfl, ?_⟩; have n0_ := qM (qP qF hb); clear HB; have HB := n0_; clear n0_; (try clear hb); (try clear hb2); (try clear hk); (try clear hi)))
            go_roundg k1
            case measure => have := HK1.out; omega
            case rel => exact ⟨((x3_1 ++ (⟨#[32]⟩ : ByteArray)) ++ t226), (wrap64 (x4_1 + 1)), qV, qV, H', ⟨by have := HK1.out; omega⟩, ⟨qF⟩⟩
           ·rw [if_neg c16] at H
            exact absurd H (by simp)
          ·rw [if_neg c14] at H
           exact absurd H (by simp)
         ·rw [if_neg c13] at H
          exact absurd H (by simp)
       ·rw [if_neg c7] at H
        (have c7b0 : (((rd_T32 l0 (ji4)).f0) == 6) = false := beq_eq_false_iff_ne.mpr c7); (have c7b1 : (((rd_T32 l0 (ji4)).f0) != 6) = true := bne_iff_ne.mpr c7); (by_cases c18 : x3_1.size + 1 ≤ 9223372036854775807)
        ·rw [if_pos c18] at H
         (have c18b0 := eq_true c18); (have c18b1 : decide (x3_1.size + 1 ≤ 9223372036854775807) = true := decide_eq_true c18); (try have c18b2 : (9223372036854775807 < x3_1.size + 1) = False := eq_false (Nat.not_lt.2 c18)); (by_cases c19 : 0 ≤ x4_1)
         ·rw [if_pos c19] at H
          (have c19b0 : decide (0 ≤ x4_1) = true := decide_eq_true c19); clear c19; (replace H := Option.bind_eq_some_iff.mp H); (obtain ⟨t228, A200, H⟩ := H); (replace H : (if (x3_1 ++ (⟨#[32]⟩ : ByteArray)).size + t228.size ≤ 9223372036854775807 then (arboristref11_Show.l0 k1 l0 ((x3_1 ++ (⟨#[32]⟩ : ByteArray)) ++ t228) (wrap64 (x4_1 + 1))) else (none)) = some r := H); (have A20 := qM A200); clear A200; (by_cases c21 : (x3_1 ++ (⟨#[32]⟩ : ByteArray)).size + t228.size ≤ 9223372036854775807)
          ·rw [if_pos c21] at H
           (have c21b0 := eq_true c21); (have c21b1 : decide ((x3_1 ++ (⟨#[32]⟩ : ByteArray)).size + t228.size ≤ 9223372036854775807) = true := decide_eq_true c21); (try have c21b2 : (9223372036854775807 < (x3_1 ++ (⟨#[32]⟩ : ByteArray)).size + t228.size) = False := eq_false (Nat.not_lt.2 c21)); (try have c21b3 : (9223372036854775807 < x3_1.size + 1 + t228.size) = False := eq_false (Nat.not_lt.2 (by have h_ := c21; simp only [ByteArray.size_append] at h_; exact h_))); (have H' := qM H); clear H; (have p221 : 0 ≤ ((ji4) : Int) := qo qX); (have q221 : (ji4) < (l0.length : Int) := qo qX); (obtain ⟨ad221, e221, hx221_0, hx221_1, hx221_2⟩ := at_T32 HR0.out (ji4) p221 q221)
           cases e221
           (replace hx221_0 := (HB.out.cell (qB w _ hx221_0)).trans hx221_0); (replace hx221_1 := (HB.out.cell (qB w _ hx221_1)).trans hx221_1); (replace hx221_2 := (HB.out.cell (qB w _ hx221_2)).trans hx221_2); (replace p221 := eq_true p221); (replace q221 := eq_true q221); (have p227 : 0 ≤ (x4_1 : Int) := qo qX); (have q227 : x4_1 < (l0.length : Int) := qo qX); (obtain ⟨ad227, e227, hx227_0, hx227_1, hx227_2⟩ := at_T32 HR0.out x4_1 p227 q227); (obtain rfl : ad221 = ad227 := (by injection e227)); (replace hx227_0 := (HB.out.cell (qB w _ hx227_0)).trans hx227_0); (replace hx227_1 := (HB.out.cell (qB w _ hx227_1)).trans hx227_1); (replace hx227_2 := (HB.out.cell (qB w _ hx227_2)).trans hx227_2); (replace p227 := eq_true p227); (replace q227 := eq_true q227)
           go_wp2_with (first | ((with_reducible refine gate_callee (f := 24) rfl ?_); refine goesL_ (some 39) rfl rfl Tryd.func24 (by kernel_rfl) rfl #[.agg #[.int .i64 ((rd_T32 l0 x4_1).f0), .string ((rd_T32 l0 x4_1).f1), .int .i64 ((rd_T32 l0 x4_1).f2)]] rfl (by (try simp only [List.map_toArray, List.map_cons, List.map_nil]); first | done | rfl | (simp only [List.length_drop, List.length_take]; rfl)) ?_; (with_reducible refine (arboristref11_text.calls k1 ((rd_T32 l0 x4_1).f0) ((rd_T32 l0 x4_1).f1) ((rd_T32 l0 x4_1).f2) t228 _ A20.out).mono ?_); rintro e w22 ⟨rfl, hb⟩; refine ⟨_, rfl, ?_⟩; have n0_ := qM (qP qF hb); clear HB; have HB := n0_; clear n0_; (try clear hb); (try clear hb2); (try clear hk); (try clear hi)))
           go_roundg k1
           case measure => have := HK1.out; omega
           case rel => exact ⟨((x3_1 ++ (⟨#[32]⟩ : ByteArray)) ++ t228), (wrap64 (x4_1 + 1)), qV, qV, H', ⟨by have := HK1.out; omega⟩, ⟨qF⟩⟩
          ·rw [if_neg c21] at H
           exact absurd H (by simp)
         ·rw [if_neg c19] at H
          exact absurd H (by simp)
        ·rw [if_neg c18] at H
         exact absurd H (by simp)
      ·rw [if_neg c6] at H
       exact absurd H (by simp)
     ·rw [if_neg c5] at H
      exact absurd H (by simp)
    ·rw [if_neg c3] at H
     (have c3b0 : decide (0 < x4_1) = false := decide_eq_false c3); clear c3; (by_cases c23 : 0 ≤ x4_1)
     ·rw [if_pos c23] at H
      (have c23b0 : decide (0 ≤ x4_1) = true := decide_eq_true c23); clear c23; (replace H := Option.bind_eq_some_iff.mp H); (obtain ⟨t230, A240, H⟩ := H); (replace H : (if x3_1.size + t230.size ≤ 9223372036854775807 then (arboristref11_Show.l0 k1 l0 (x3_1 ++ t230) (wrap64 (x4_1 + 1))) else (none)) = some r := H); (have A24 := qM A240); clear A240; (by_cases c25 : x3_1.size + t230.size ≤ 9223372036854775807)
      ·rw [if_pos c25] at H
       (have c25b0 := eq_true c25); (have c25b1 : decide (x3_1.size + t230.size ≤ 9223372036854775807) = true := decide_eq_true c25); (try have c25b2 : (9223372036854775807 < x3_1.size + t230.size) = False := eq_false (Nat.not_lt.2 c25)); (have H' := qM H); clear H; (have p229 : 0 ≤ (x4_1 : Int) := qo qX); (have q229 : x4_1 < (l0.length : Int) := qo qX); (obtain ⟨ad229, e229, hx229_0, hx229_1, hx229_2⟩ := at_T32 HR0.out x4_1 p229 q229)
       cases e229
       (replace hx229_0 := (HB.out.cell (qB w _ hx229_0)).trans hx229_0); (replace hx229_1 := (HB.out.cell (qB w _ hx229_1)).trans hx229_1); (replace hx229_2 := (HB.out.cell (qB w _ hx229_2)).trans hx229_2); (replace p229 := eq_true p229); (replace q229 := eq_true q229)
       go_wp2_with (first | ((with_reducible refine gate_callee (f := 24) rfl ?_); refine goesL_ (some 39) rfl rfl Tryd.func24 (by kernel_rfl) rfl #[.agg #[.int .i64 ((rd_T32 l0 x4_1).f0), .string ((rd_T32 l0 x4_1).f1), .int .i64 ((rd_T32 l0 x4_1).f2)]] rfl (by (try simp only [List.map_toArray, List.map_cons, List.map_nil]); first | done | rfl | (simp only [List.length_drop, List.length_take]; rfl)) ?_; (with_reducible refine (arboristref11_text.calls k1 ((rd_T32 l0 x4_1).f0) ((rd_T32 l0 x4_1).f1) ((rd_T32 l0 x4_1).f2) t230 _ A24.out).mono ?_); rintro e w26 ⟨rfl, hb⟩; refine ⟨_, rfl, ?_⟩; have n0_ := qM (qP qF hb); clear HB; have HB := n0_; clear n0_; (try clear hb); (try clear hb2); (try clear hk); (try clear hi)))
       go_roundg k1
       case measure => have := HK1.out; omega
       case rel => exact ⟨(x3_1 ++ t230), (wrap64 (x4_1 + 1)), qV, qV, H', ⟨by have := HK1.out; omega⟩, ⟨qF⟩⟩
      ·rw [if_neg c25] at H
       exact absurd H (by simp)
     ·rw [if_neg c23] at H
      exact absurd H (by simp)
   ·rw [if_neg c2] at H
    (have c2b0 : decide (x4_1 < (l0.length : Int)) = false := decide_eq_false c2); clear c2; (obtain rfl := Option.some.inj H); go_wp2; (go_ret); (exact ⟨qE, qF⟩)
theorem eqA26 (d : Nat) (w : World) (x0 y0 : Int) (x1 y1 : Int) (x2 y2 : ByteArray) :
  (Op.equalIn (d + 2) 26 (.agg #[.int .i64 x0, .int .i64 x1, .string x2]) (.agg #[.int .i64 y0, .int .i64 y1, .string y2])).run Tryd.prog w = .ok (x0 == y0 && (x1 == y1 && (x2.toList == y2.toList))) w := by
 (refine eqA_of Tryd.underlying26 (by kernel_rfl) ?_); (refine eqf_cons (by rfl) (by go_simp; rfl) (by go_simp; rfl) (by go_simp) ?_); (refine eqf_cons (by rfl) (by go_simp; rfl) (by go_simp; rfl) (by go_simp) ?_); (exact eqf_last (by rfl) (by go_simp; rfl) (by go_simp; rfl) (by go_simp))
theorem eqA32 (d : Nat) (w : World) (x0 y0 : Int) (x1 y1 : ByteArray) (x2 y2 : Int) :
  (Op.equalIn (d + 2) 32 (.agg #[.int .i64 x0, .string x1, .int .i64 x2]) (.agg #[.int .i64 y0, .string y1, .int .i64 y2])).run Tryd.prog w = .ok (x0 == y0 && (x1.toList == y1.toList && (x2 == y2))) w := by
 (refine eqA_of Tryd.underlying32 (by kernel_rfl) ?_); (refine eqf_cons (by rfl) (by go_simp; rfl) (by go_simp; rfl) (by go_simp) ?_); (refine eqf_cons (by rfl) (by go_simp; rfl) (by go_simp; rfl) (by go_simp) ?_); (exact eqf_last (by rfl) (by go_simp; rfl) (by go_simp; rfl) (by go_simp))
mutual
def speclex_term.l0 : Nat → ByteArray → Bool → Int → Option (Int)
 | 0, _, _, _ => none
 | k + 1, x0, x3, x4 => if x4 < (x0.size : Int) then (if 0 ≤ x4 then (speclex_term.j1 k x0 x3 x4 ((bt x0 x4) != 10)) else (none)) else (speclex_term.j1 k x0 x3 x4 false)
def speclex_term.j1 : Nat → ByteArray → Bool → Int → Bool → Option (Int)
 | 0, _, _, _, _ => none
 | k + 1, x0, x3, x4, x14 => if x14 = true then (if x3 = true then (speclex_term.l0 k x0 false (wrap64 (x4 + 1))) else (if 0 ≤ x4 then (if x4 < (x0.size : Int) then (if (bt x0 x4) = 92 then (speclex_term.l0 k x0 true (wrap64 (x4 + 1))) else (if (bt x0 x4) = 47 then (some (wrap64 (x4 + 1))) else (speclex_term.l0 k x0 x3 (wrap64 (x4 + 1))))) else (none)) else (none))) else (some 0)
end
def speclex_term.f (k : Nat) (a0 : ByteArray) : Option (Int) := speclex_term.l0 k a0 false 1
theorem speclex_term.mono_l : ∀ k, (∀ y0 y1 y2, LeO (speclex_term.l0 k y0 y1 y2) (speclex_term.l0 (k + 1) y0 y1 y2)) ∧ (∀ y0 y1 y2 y3, LeO (speclex_term.j1 k y0 y1 y2 y3) (speclex_term.j1 (k + 1) y0 y1 y2 y3))
 | 0 => ⟨fun _ _ _ r h => by simp [speclex_term.l0] at h, fun _ _ _ _ r h => by simp [speclex_term.j1] at h⟩
 | k + 1 => by
  (obtain ⟨ih0, ih1⟩ := speclex_term.mono_l k); (refine ⟨?_, ?_⟩)
  ·intro y0 y1 y2
   unfold speclex_term.l0
   repeat' first
   | (with_reducible exact ih0 _ _ _)
   | (with_reducible exact ih1 _ _ _ _)
   | (with_reducible exact LeO.refl _)
   | (with_reducible exact LeO.none _)
   | (with_reducible refine LeO.ite ?_ ?_)
   | (with_reducible refine LeO.bind ?_ (fun _ => ?_))
   | exact ih0 _ _ _
   | exact ih1 _ _ _ _
   | exact LeO.none _
   | refine LeO.ite ?_ ?_
   | refine LeO.bind ?_ (fun _ => ?_)
  ·intro y0 y1 y2 y3
   unfold speclex_term.j1
   repeat' first
   | (with_reducible exact ih0 _ _ _)
   | (with_reducible exact ih1 _ _ _ _)
   | (with_reducible exact LeO.refl _)
   | (with_reducible exact LeO.none _)
   | (with_reducible refine LeO.ite ?_ ?_)
   | (with_reducible refine LeO.bind ?_ (fun _ => ?_))
   | exact ih0 _ _ _
   | exact ih1 _ _ _ _
   | exact LeO.none _
   | refine LeO.ite ?_ ?_
   | refine LeO.bind ?_ (fun _ => ?_)
theorem speclex_term.mono : ∀ a0 k, LeO (speclex_term.f k a0) (speclex_term.f (k + 1) a0) := by
 (intro a0 k); (obtain ⟨ih0, ih1⟩ := speclex_term.mono_l k); (unfold speclex_term.f)
 repeat' first
   | (with_reducible exact ih0 _ _ _)
   | (with_reducible exact ih1 _ _ _ _)
   | (with_reducible exact LeO.refl _)
   | (with_reducible exact LeO.none _)
   | (with_reducible refine LeO.ite ?_ ?_)
   | (with_reducible refine LeO.bind ?_ (fun _ => ?_))
   | exact ih0 _ _ _
   | exact ih1 _ _ _ _
   | exact LeO.none _
   | refine LeO.ite ?_ ?_
   | refine LeO.bind ?_ (fun _ => ?_)
set_option maxHeartbeats 8000000 in
set_option maxRecDepth 100000 in
theorem speclex_term.calls (k : Nat) (a0 : ByteArray) (r : Int) (w : World) (h : speclex_term.f k a0 = some r) :
  Calls Tryd.prog 29 #[.string a0] w fun e w' => e = .returned (.int .i64 r) ∧ Drawn0 w w' := by
 (have H : (speclex_term.l0 k a0 false 1) = some r := h); clear h; (have H' := qM H); clear H; (go_enter Tryd.func29, Tryd.ntmps29); go_wp2; (go_loopg [3, 4] k (fun kq v3 v4 w' => ∃ (x3_1 : Bool) (x4_1 : Int), v3 = .bool x3_1 ∧ v4 = .int .i64 x4_1 ∧ Aside0 (speclex_term.l0 kq a0 x3_1 x4_1 = some r) ∧ Aside0 (kq ≤ k) ∧ Drawn0 w w'))
 case atStart => exact ⟨(false), (1), qV, qV, H', ⟨Nat.le_refl _⟩, by repeat (first | exact Drawn0.refl _ | apply Drawn0.step)⟩
 case round =>
  (clear H'); (obtain ⟨x3_1, x4_1, rfl, rfl, HA, HK1, ⟨m1, rfl⟩⟩ := hrel)
  cases gk with
  | zero => exact absurd HA.out (by simp [speclex_term.l0])
  | succ k1 =>
   (have H := HA.out); clear HA; (simp only [speclex_term.l0] at H); (have HC2 := qM H); clear H; (go_upto_region 3 with (fail)); (go_cut [14] (fun v14 wc => ∃ (kq : Nat) (x14_1 : Bool), v14 = .bool x14_1 ∧ Aside0 (speclex_term.j1 kq a0 x3_1 x4_1 x14_1 = some r) ∧ Aside0 (kq ≤ k1) ∧ Drawn0 w wc))
   case first =>
    (have H := HC2.out); clear HC2; (by_cases c3 : x4_1 < (a0.size : Int))
    ·rw [if_pos c3] at H
     (have c3b0 : decide (x4_1 < (a0.size : Int)) = true := decide_eq_true c3); clear c3; ((first | rw [c3b0] | (simp only [i64_w, i32_w]; rw [c3b0]) | skip)); (by_cases c4 : 0 ≤ x4_1)
     ·rw [if_pos c4] at H
      (have c4b0 : decide (0 ≤ x4_1) = true := decide_eq_true c4); clear c4; (have H' := qM H); clear H; (have p5 : 0 ≤ (x4_1 : Int) := qo qX); (have q5 : x4_1 < (a0.size : Int) := qo qX); (have hx5 := bt_at a0 x4_1); (replace p5 := eq_true p5); (replace q5 := eq_true q5); go_wp2; go_meet
      case rel => exact ⟨_, (((bt a0 x4_1) != 10)), qV, H', ⟨by have := HK1.out; first | omega | exact Nat.le_refl _⟩, by repeat (first | exact Drawn0.refl _ | apply Drawn0.step)⟩
     ·rw [if_neg c4] at H
      exact absurd H (by simp)
    ·rw [if_neg c3] at H
     (have c3b0 : decide (x4_1 < (a0.size : Int)) = false := decide_eq_false c3); clear c3; ((first | rw [c3b0] | (simp only [i64_w, i32_w]; rw [c3b0]) | skip)); (have H' := qM H); clear H; go_wp2; go_meet
     case rel => exact ⟨_, (false), qV, H', ⟨by have := HK1.out; first | omega | exact Nat.le_refl _⟩, by repeat (first | exact Drawn0.refl _ | apply Drawn0.step)⟩
   case rest =>
    clear HC2; (try clear c2); (try clear p2); (try clear c3); (try clear c3b0); (try clear c4); (try clear c4b0); (try clear p5); (try clear q5); (try clear hx5); (try clear p5); (try clear q5); (obtain ⟨kq, x14_1, rfl, HA, HJ1, ⟨mc1, rfl⟩⟩ := hcut)
    cases kq with
    | zero => exact absurd HA.out (by simp [speclex_term.j1])
    | succ kj1 =>
     (have H := HA.out); clear HA; (simp only [speclex_term.j1] at H); (by_cases c6 : x14_1 = true)
     ·subst c6
      (have H1 : (if x3_1 = true then (speclex_term.l0 kj1 a0 false (wrap64 (x4_1 + 1))) else (if 0 ≤ x4_1 then (if x4_1 < (a0.size : Int) then (if (bt a0 x4_1) = 92 then (speclex_term.l0 kj1 a0 true (wrap64 (x4_1 + 1))) else (if (bt a0 x4_1) = 47 then (some (wrap64 (x4_1 + 1))) else (speclex_term.l0 kj1 a0 x3_1 (wrap64 (x4_1 + 1))))) else (none)) else (none))) = some r := by rw [if_pos rfl] at H; exact H); clear H; (have H := H1); clear H1; (by_cases c7 : x3_1 = true)
      ·subst c7
       (have H1 : (speclex_term.l0 kj1 a0 false (wrap64 (x4_1 + 1))) = some r := by rw [if_pos rfl] at H; exact H); clear H; (have H := H1); clear H1; (have H' := qM H); clear H; go_wp2; (go_roundg kj1)
       case measure => have := HK1.out; have := HJ1.out; omega
       case rel => exact ⟨(false), (wrap64 (x4_1 + 1)), qV, qV, H', ⟨by have := HK1.out; have := HJ1.out; omega⟩, by repeat (first | exact Drawn0.refl _ | apply Drawn0.step)⟩
      ·replace c7 := Bool.eq_false_iff.mpr c7
       subst c7; (have H1 : (if 0 ≤ x4_1 then (if x4_1 < (a0.size : Int) then (if (bt a0 x4_1) = 92 then (speclex_term.l0 kj1 a0 true (wrap64 (x4_1 + 1))) else (if (bt a0 x4_1) = 47 then (some (wrap64 (x4_1 + 1))) else (speclex_term.l0 kj1 a0 false (wrap64 (x4_1 + 1))))) else (none)) else (none)) = some r := by rw [if_neg (show ¬ (false = true) by decide)] at H; exact H); clear H; (have H := H1); clear H1; (by_cases c8 : 0 ≤ x4_1)
       ·rw [if_pos c8] at H
        (have c8b0 : decide (0 ≤ x4_1) = true := decide_eq_true c8); clear c8; (by_cases c9 : x4_1 < (a0.size : Int))
        ·rw [if_pos c9] at H
         (have c9b0 : decide (x4_1 < (a0.size : Int)) = true := decide_eq_true c9); clear c9; (by_cases c11 : (bt a0 x4_1) = 92)
         ·rw [if_pos c11] at H
          (have c11b0 : ((bt a0 x4_1) == 92) = true := beq_iff_eq.mpr c11); (have c11b1 : ((bt a0 x4_1) != 92) = false := bne_eq_false_iff_eq.mpr c11); clear c11; (have H' := qM H); clear H; (have p10 : 0 ≤ (x4_1 : Int) := qo qX); (have q10 : x4_1 < (a0.size : Int) := qo qX); (have hx10 := bt_at a0 x4_1); (replace p10 := eq_true p10); (replace q10 := eq_true q10); go_wp2; (go_roundg kj1)
          case measure => have := HK1.out; have := HJ1.out; omega
          case rel => exact ⟨(true), (wrap64 (x4_1 + 1)), qV, qV, H', ⟨by have := HK1.out; have := HJ1.out; omega⟩, by repeat (first | exact Drawn0.refl _ | apply Drawn0.step)⟩
         ·rw [if_neg c11] at H
          (have c11b0 : ((bt a0 x4_1) == 92) = false := beq_eq_false_iff_ne.mpr c11); (have c11b1 : ((bt a0 x4_1) != 92) = true := bne_iff_ne.mpr c11); (by_cases c13 : (bt a0 x4_1) = 47)
          ·rw [if_pos c13] at H
           (have c13b0 : ((bt a0 x4_1) == 47) = true := beq_iff_eq.mpr c13); (have c13b1 : ((bt a0 x4_1) != 47) = false := bne_eq_false_iff_eq.mpr c13); clear c13; (obtain rfl := Option.some.inj H); (have p10 : 0 ≤ (x4_1 : Int) := qo qX); (have q10 : x4_1 < (a0.size : Int) := qo qX); (have hx10 := bt_at a0 x4_1); (replace p10 := eq_true p10); (replace q10 := eq_true q10); (have p12 : 0 ≤ (x4_1 : Int) := qo qX); (have q12 : x4_1 < (a0.size : Int) := qo qX); (have hx12 := bt_at a0 x4_1); (replace p12 := eq_true p12); (replace q12 := eq_true q12); go_wp2; (go_ret); (exact ⟨qV, by repeat (first | exact Drawn0.refl _ | apply Drawn0.step)⟩)
          ·rw [if_neg c13] at H
           (have c13b0 : ((bt a0 x4_1) == 47) = false := beq_eq_false_iff_ne.mpr c13); (have c13b1 : ((bt a0 x4_1) != 47) = true := bne_iff_ne.mpr c13); (have H' := qM H); clear H; (have p10 : 0 ≤ (x4_1 : Int) := qo qX); (have q10 : x4_1 < (a0.size : Int) := qo qX); (have hx10 := bt_at a0 x4_1); (replace p10 := eq_true p10); (replace q10 := eq_true q10); (have p12 : 0 ≤ (x4_1 : Int) := qo qX); (have q12 : x4_1 < (a0.size : Int) := qo qX); (have hx12 := bt_at a0 x4_1); (replace p12 := eq_true p12); (replace q12 := eq_true q12); go_wp2; (go_roundg kj1)
           case measure => have := HK1.out; have := HJ1.out; omega
           case rel => exact ⟨(false), (wrap64 (x4_1 + 1)), qV, qV, H', ⟨by have := HK1.out; have := HJ1.out; omega⟩, by repeat (first | exact Drawn0.refl _ | apply Drawn0.step)⟩
        ·rw [if_neg c9] at H
         exact absurd H (by simp)
       ·rw [if_neg c8] at H
        exact absurd H (by simp)
     ·replace c6 := Bool.eq_false_iff.mpr c6
      subst c6; (have H1 : (some 0) = some r := by rw [if_neg (show ¬ (false = true) by decide)] at H; exact H); clear H; (have H := H1); clear H1; (obtain rfl := Option.some.inj H); go_wp2; (go_ret); (exact ⟨qV, by repeat (first | exact Drawn0.refl _ | apply Drawn0.step)⟩)
def utf8_ValidRune.j0 : Nat → Int → Bool → Option (Bool)
 | 0, _, _ => none
 | k + 1, x0, x3 => if x3 = true then (some true) else (if 57343 < x0 then (if x0 ≤ 1114111 then (some true) else (some false)) else (some false))
def utf8_ValidRune.f (k : Nat) (a0 : Int) : Option (Bool) := if 0 ≤ a0 then (utf8_ValidRune.j0 k a0 (decide (a0 < 55296))) else (utf8_ValidRune.j0 k a0 false)
theorem utf8_ValidRune.mono_l : ∀ k, (∀ y0 y1, LeO (utf8_ValidRune.j0 k y0 y1) (utf8_ValidRune.j0 (k + 1) y0 y1))
 | 0 => fun _ _ r h => by simp [utf8_ValidRune.j0] at h
 | k + 1 => by
  have ih0 := utf8_ValidRune.mono_l k
  ·intro y0 y1
   unfold utf8_ValidRune.j0
   repeat' first
   | (with_reducible exact ih0 _ _)
   | (with_reducible exact LeO.refl _)
   | (with_reducible exact LeO.none _)
   | (with_reducible refine LeO.ite ?_ ?_)
   | (with_reducible refine LeO.bind ?_ (fun _ => ?_))
   | exact ih0 _ _
   | exact LeO.none _
   | refine LeO.ite ?_ ?_
   | refine LeO.bind ?_ (fun _ => ?_)
theorem utf8_ValidRune.mono : ∀ a0 k, LeO (utf8_ValidRune.f k a0) (utf8_ValidRune.f (k + 1) a0) := by
 (intro a0 k); (have ih0 := utf8_ValidRune.mono_l k); (unfold utf8_ValidRune.f)
 repeat' first
   | (with_reducible exact ih0 _ _)
   | (with_reducible exact LeO.refl _)
   | (with_reducible exact LeO.none _)
   | (with_reducible refine LeO.ite ?_ ?_)
   | (with_reducible refine LeO.bind ?_ (fun _ => ?_))
   | exact ih0 _ _
   | exact LeO.none _
   | refine LeO.ite ?_ ?_
   | refine LeO.bind ?_ (fun _ => ?_)
set_option maxHeartbeats 8000000 in
set_option maxRecDepth 100000 in
theorem utf8_ValidRune.calls (k : Nat) (a0 : Int) (r : Bool) (w : World) (h : utf8_ValidRune.f k a0 = some r) :
  Calls Tryd.prog 72 #[.int .i32 a0] w fun e w' => e = .returned (.bool r) ∧ Drawn0 w w' := by
 (have H : (if 0 ≤ a0 then (utf8_ValidRune.j0 k a0 (decide (a0 < 55296))) else (utf8_ValidRune.j0 k a0 false)) = some r := h); clear h; (have HC2 := qM H); clear H; (go_enter Tryd.func72, Tryd.ntmps72); (go_upto_region 1 with (fail)); (go_cut [3] (fun v3 wc => ∃ (kq : Nat) (x3_1 : Bool), v3 = .bool x3_1 ∧ Aside0 (utf8_ValidRune.j0 kq a0 x3_1 = some r) ∧ Aside0 (kq ≤ k) ∧ Drawn0 w wc))
 case first =>
  (have H := HC2.out); clear HC2; (by_cases c3 : 0 ≤ a0)
  ·rw [if_pos c3] at H
   (have c3b0 : decide (0 ≤ a0) = true := decide_eq_true c3); clear c3; ((first | rw [c3b0] | (simp only [i64_w, i32_w]; rw [c3b0]) | skip)); (have H' := qM H); clear H; go_wp2; go_meet
   case rel => exact ⟨_, (decide (a0 < 55296)), qV, H', ⟨by first | omega | exact Nat.le_refl _⟩, by repeat (first | exact Drawn0.refl _ | apply Drawn0.step)⟩
  ·rw [if_neg c3] at H
   (have c3b0 : decide (0 ≤ a0) = false := decide_eq_false c3); clear c3; ((first | rw [c3b0] | (simp only [i64_w, i32_w]; rw [c3b0]) | skip)); (have H' := qM H); clear H; go_wp2; go_meet
   case rel => exact ⟨_, (false), qV, H', ⟨by first | omega | exact Nat.le_refl _⟩, by repeat (first | exact Drawn0.refl _ | apply Drawn0.step)⟩
 case rest =>
  clear HC2; (try clear p2); (try clear c3); (try clear c3b0); (obtain ⟨kq, x3_1, rfl, HA, HJ1, ⟨mc1, rfl⟩⟩ := hcut)
  cases kq with
  | zero => exact absurd HA.out (by simp [utf8_ValidRune.j0])
  | succ kj1 =>
   (have H := HA.out); clear HA; (simp only [utf8_ValidRune.j0] at H); (by_cases c4 : x3_1 = true)
   ·subst c4
    (have H1 : (some true) = some r := by rw [if_pos rfl] at H; exact H); clear H; (have H := H1); clear H1; (obtain rfl := Option.some.inj H); go_wp2; (go_ret); (exact ⟨qV, by repeat (first | exact Drawn0.refl _ | apply Drawn0.step)⟩)
   ·replace c4 := Bool.eq_false_iff.mpr c4
    subst c4; (have H1 : (if 57343 < a0 then (if a0 ≤ 1114111 then (some true) else (some false)) else (some false)) = some r := by rw [if_neg (show ¬ (false = true) by decide)] at H; exact H); clear H; (have H := H1); clear H1; (by_cases c5 : 57343 < a0)
    ·rw [if_pos c5] at H
     (have c5b0 : decide (57343 < a0) = true := decide_eq_true c5); clear c5; (by_cases c6 : a0 ≤ 1114111)
     ·rw [if_pos c6] at H
      (have c6b0 : decide (a0 ≤ 1114111) = true := decide_eq_true c6); clear c6; (obtain rfl := Option.some.inj H); go_wp2; (go_ret); (exact ⟨qV, by repeat (first | exact Drawn0.refl _ | apply Drawn0.step)⟩)
     ·rw [if_neg c6] at H
      (have c6b0 : decide (a0 ≤ 1114111) = false := decide_eq_false c6); clear c6; (obtain rfl := Option.some.inj H); go_wp2; (go_ret); (exact ⟨qV, by repeat (first | exact Drawn0.refl _ | apply Drawn0.step)⟩)
    ·rw [if_neg c5] at H
     (have c5b0 : decide (57343 < a0) = false := decide_eq_false c5); clear c5; (obtain rfl := Option.some.inj H); go_wp2; (go_ret); (exact ⟨qV, by repeat (first | exact Drawn0.refl _ | apply Drawn0.step)⟩)
end Go.Proofs.YthijdjpipjbkbaaDoor.H
end
