/- A part (2 of 3) of this proof: text.Place returns the offset of any line and column of a text, as the reference does: the law TextPlaces returns true for every text and every position (where the arguments can be read and the listed package variables hold what the program lays) -/
import Derived.Test.YtlpkkkkgbnoiiaaDoorRows
import Derived.WalkKit
import Derived.ProofKit
import Derived.OpenShut
import Derived.ShutString
import Derived.ChangeOld
import Derived.Below
import Derived.SizedLaws
import Derived.Maps.Own
import Derived.Maps.OwnOps
import Derived.Maps.OwnSet
import Derived.Handy
import Derived.Outline
import Derived.Lib.OthersKept
import Derived.Lib.RuneBytes
import Derived.Lib.RuneLoops
import Derived.Lib.RuneCountTail
import Derived.Lib.TrimU
import Derived.Lib.QuoteLoop
import Derived.Laws.RangeAny
import Derived.Test.YtlpkkkkgbnoiiaaDoorZb1
section
namespace Go.Proofs.YtlpkkkkgbnoiiaaDoor.H
open Go.RowKit Go.ChangeShapes Go.WideShapes Go.ChangeAt Go.Proofs.YtlpkkkkgbnoiiaaDoorW.PrintWords Go.Proofs.YtlpkkkkgbnoiiaaDoorW.PrintLast Go.Proofs.YtlpkkkkgbnoiiaaDoorW.PrintMore
set_option linter.unusedVariables false
set_option linter.unusedSimpArgs false
structure Opens {α : Type} (P : Program) (t : TypeId) (K : Kd α) (ok : α → Prop) (sz : α → Nat) : Prop where
  cells : P.cellsOf t = K.sz
  op : ∀ {H : Type} {enc : TypeId × Value → H} {W : World} {base : Nat} {sp : Nat → Bool} {held : Bool} {n : Nat} {cs : List Value} {x : DataW H × List MemPlace},
    DataW.trod enc P W base sp held n t cs = some x → (∀ u ∈ DataW.weights P t x.1, u ≤ reachBytes) → ∃ v, K.K W v cs ∧ ok v ∧ sz v ≤ Rows.uptoBulk x.1
structure OpensF {β : Type} (P : Program) (fs : List Field) (o : Nat) (K : Kd β) (ok : β → Prop) (sz : β → Nat) : Prop where
  op : ∀ {H : Type} {enc : TypeId × Value → H} {W : World} {base : Nat} {sp : Nat → Bool} {held : Bool} {n : Nat} {cs : List Value} {xs : List (DataW H × List MemPlace)},
    cs.length = o + K.sz → xs.length = fs.length → (∀ (i : Nat) (f : Field), fs[i]? = some f → DataW.trod enc P W base sp held n f.type ((cs.drop f.offset).take (P.cellsOf f.type)) = xs[i]?) →
    (∀ u ∈ DataW.weightsEach P (fs.map (·.type)) (xs.map (·.1)), u ≤ reachBytes) → ∃ v, K.K W v (cs.drop o) ∧ ok v ∧ sz v ≤ Rows.uptoBulkAll (xs.map (·.1))
section
variable {P : Program} {α β : Type} {t e : TypeId}
theorem opens_int (k : IntKind) (ht : P.underlying t = some (.int k)) (hc : P.cellsOf t = 1) : Opens P t (Kd.int k) (fun n => (Lit.int k n).wf = true) (fun _ => 1) :=
  ⟨hc, fun {H enc W base sp held n cs x} h _ => by obtain ⟨n, rfl, rfl, hw⟩ := DataW.trod_int ht h; exact ⟨n, rfl, hw, by simp [Rows.uptoBulk]⟩⟩
theorem opensF_one {f : Field} {o : Nat} {K : Kd α} {ok : α → Prop} {sz : α → Nat} {t : TypeId} (h : Opens P t K ok sz) (ht : f.type = t) (ho : f.offset = o) : OpensF P [f] o K ok sz := by
  subst ht
  constructor
  intro H enc W base sp held n cs xs hl hx hf hw
  obtain ⟨y, rfl⟩ : ∃ y, xs = [y] := by
    match xs, hx with
    | [y], _ => exact ⟨y, rfl⟩
  have h1 := hf 0 f rfl
  rw [ho, h.cells, List.take_of_length_le (by rw [List.length_drop]; omega)] at h1
  obtain ⟨v, hk, hv, hz⟩ := h.op (by simpa using h1) (fun u hu => hw u (by simp [DataW.weightsEach]; exact hu))
  exact ⟨v, hk, hv, by simpa [Rows.uptoBulkAll] using hz⟩
theorem opensF_cons {f : Field} {fs : List Field} {o : Nat} {K1 : Kd α} {K2 : Kd β} {ok1 : α → Prop} {ok2 : β → Prop} {sz1 : α → Nat} {sz2 : β → Nat} {t : TypeId} (h : Opens P t K1 ok1 sz1) (ht : f.type = t) (ho : f.offset = o) (hr : OpensF P fs (o + K1.sz) K2 ok2 sz2) :
    OpensF P (f :: fs) o (Kd.pair K1 K2) (fun p => ok1 p.1 ∧ ok2 p.2) (fun p => sz1 p.1 + sz2 p.2) := by
  subst ht
  constructor
  intro H enc W base sp held n cs xs hl hx hf hw
  obtain ⟨y, ys, rfl⟩ : ∃ y ys, xs = y :: ys := by
    match xs, hx with
    | y :: ys, _ => exact ⟨y, ys, rfl⟩
  have hl' : cs.length = o + (K1.sz + K2.sz) := hl
  have h1 := hf 0 f rfl
  rw [ho, h.cells] at h1
  obtain ⟨v1, k1, g1, z1⟩ := h.op (by simpa using h1) (fun u hu => hw u (by simp [DataW.weightsEach]; exact .inl hu))
  obtain ⟨v2, k2, g2, z2⟩ := hr.op (cs := cs) (xs := ys) (by omega) (by simpa using hx) (fun i g hg => by have := hf (i + 1) g (by simpa using hg); simpa using this) (fun u hu => hw u (by simp [DataW.weightsEach]; exact .inr hu))
  refine ⟨(v1, v2), ⟨(cs.drop o).take K1.sz, cs.drop (o + K1.sz), ?_, k1, k2⟩, ⟨g1, g2⟩, by simp only [List.map_cons, Rows.uptoBulkAll]; omega⟩
  rw [← List.drop_drop, List.take_append_drop]
theorem opens_struct {fs : Array Field} {K : Kd α} {ok : α → Prop} {sz : α → Nat} (ht : P.underlying t = some (.struct fs)) (hc : P.cellsOf t = K.sz) (h : OpensF P fs.toList 0 K ok sz) : Opens P t K ok (fun v => sz v + 1) :=
  ⟨hc, fun {H enc W base sp held n cs x} h0 hw => by
    obtain ⟨xs, m, rfl, rfl, hl, hx, hf⟩ := DataW.trod_struct ht h0
    obtain ⟨v, hk, ho, hz⟩ := h.op (cs := cs) (xs := xs) (by omega) (by simpa using hx) (fun i f hi => hf i f (by simpa using hi)) (fun u hu => hw u (by simp only [DataW.weights, ht]; exact hu))
    exact ⟨v, by simpa using hk, ho, by simp only [Rows.uptoBulk]; omega⟩⟩
theorem opens_iso {K : Kd α} {ok : α → Prop} {sz : α → Nat} (f : β → α) (g : α → β) (hfg : ∀ a, f (g a) = a) (h : Opens P t K ok sz) : Opens P t (Kd.iso K f) (fun x => ok (f x)) (fun x => sz (f x)) :=
  ⟨h.cells, fun h0 hw => by
    obtain ⟨v, hk, ho, hz⟩ := h.op h0 hw
    exact ⟨g v, by show K.K _ (f (g v)) _; rw [hfg]; exact hk, by show ok (f (g v)); rw [hfg]; exact ho, by show sz (f (g v)) ≤ _; rw [hfg]; exact hz⟩⟩
theorem Opens.imp {K : Kd α} {ok ok' : α → Prop} {sz sz' : α → Nat} (h : Opens P t K ok sz) (hi : ∀ x, ok x → ok' x) (hs : ∀ x, sz' x ≤ sz x) : Opens P t K ok' sz' :=
  ⟨h.cells, fun h0 hw => by obtain ⟨v, hk, ho, hz⟩ := h.op h0 hw; exact ⟨v, hk, hi v ho, Nat.le_trans (hs v) hz⟩⟩
theorem Opens.of {H : Type} {enc : TypeId × Value → H} {W : World} {base : Nat} {sp : Nat → Bool} {held : Bool} {K : Kd α} {ok : α → Prop} {sz : α → Nat} (h : Opens P t K ok sz) {v : Value} {d : DataW H} {ps : List MemPlace} {ts : List TypeId} {ds : List (DataW H)} {j : Nat}
    (hsz : (DataW.weightsEach P ts ds).all (· ≤ reachBytes) = true) (ht : ts[j]? = some t) (hd : ds[j]? = some d) (h0 : DataW.Trod enc P W base sp held t v d ps) : ∃ x, K.K W x v.cells.toList ∧ ok x ∧ sz x ≤ Rows.uptoBulk d := by
  obtain ⟨fuel, hf⟩ := h0
  exact h.op hf (fun u hu => by simpa using List.all_eq_true.1 hsz u (DataW.weights_mem_each ht hd u hu))
end
end Go.Proofs.YtlpkkkkgbnoiiaaDoor.H
end
section
namespace Go.Proofs.YtlpkkkkgbnoiiaaDoor.H
open Go.RowKit Go.ChangeShapes Go.WideShapes Go.ChangeAt Go.Proofs.YtlpkkkkgbnoiiaaDoorW.PrintWords Go.Proofs.YtlpkkkkgbnoiiaaDoorW.PrintLast Go.Proofs.YtlpkkkkgbnoiiaaDoorW.PrintMore
set_option linter.unusedVariables false
def ok25 (x : S25) : Prop := ((fun n : Int => (Lit.int .i64 n).wf = true) x.f0 ∧ (fun n : Int => (Lit.int .i64 n).wf = true) x.f1)
def sz25 (x : S25) : Nat := ((fun _ : Int => 1) x.f0 + (fun _ : Int => 1) x.f1) + 1
set_option maxRecDepth 100000 in
theorem opens_k25 : Opens Tryd.prog 25 k25 ok25 sz25 := by
  have hS : Opens Tryd.prog 25 (Kd.pair (Kd.int .i64) (Kd.int .i64)) (fun p : (Int) × (Int) => (fun n : Int => (Lit.int .i64 n).wf = true) p.1 ∧ (fun n : Int => (Lit.int .i64 n).wf = true) p.2) (fun v => (fun p : (Int) × (Int) => (fun _ : Int => 1) p.1 + (fun _ : Int => 1) p.2) v + 1) := by
    refine opens_struct Tryd.underlying25 (by kernel_rfl) ?_
    refine opensF_cons (ok1 := (fun n : Int => (Lit.int .i64 n).wf = true)) (ok2 := (fun n : Int => (Lit.int .i64 n).wf = true)) (sz1 := (fun _ : Int => 1)) (sz2 := (fun _ : Int => 1)) (opens_int .i64 Tryd.underlying3 (by kernel_rfl)) rfl (by kernel_rfl) ?_
    exact opensF_one (ok := (fun n : Int => (Lit.int .i64 n).wf = true)) (sz := (fun _ : Int => 1)) (opens_int .i64 Tryd.underlying3 (by kernel_rfl)) rfl (by kernel_rfl)
  have hI := opens_iso (fun x : S25 => (x.f0, x.f1)) (fun p => ⟨p.1, p.2⟩) (fun _ => rfl) hS
  exact hI.imp (fun _ h => h) (fun _ => Nat.le_refl _)
end Go.Proofs.YtlpkkkkgbnoiiaaDoor.H
end
section
namespace Go.Proofs.YtlpkkkkgbnoiiaaDoor.H
open Go.RowKit Go.Proofs.YtlpkkkkgbnoiiaaDoorW.PrintWords Go.Proofs.YtlpkkkkgbnoiiaaDoorW.PrintLast Go.Proofs.YtlpkkkkgbnoiiaaDoorW.PrintMore
open Go.WideMaps Go.Maps
set_option linter.unusedVariables false
set_option linter.unusedSimpArgs false
theorem ba_ext {a b : ByteArray} (h : a.data.toList = b.data.toList) : a = b := by
  cases a; cases b; simp_all
instance decBA : DecidableEq ByteArray := fun a b => decidable_of_iff (a.data.toList = b.data.toList) ⟨ba_ext, fun h => by rw [h]⟩
instance decMemBA (s : ByteArray) (l : List ByteArray) : Decidable (s ∈ l) := decidable_of_iff (l.any (fun y => decide (y = s)) = true) (by simp)
end Go.Proofs.YtlpkkkkgbnoiiaaDoor.H
end
section
namespace Go.Proofs.YtlpkkkkgbnoiiaaDoor.H
open Go.RowKit Go.Proofs.YtlpkkkkgbnoiiaaDoorW.PrintWords Go.Proofs.YtlpkkkkgbnoiiaaDoorW.PrintLast Go.Proofs.YtlpkkkkgbnoiiaaDoorW.PrintMore
attribute [local go_sem] max2_int min2_int max_two min_two max_three min_three max_four min_four
set_option linter.unusedVariables false
set_option linter.unusedSimpArgs false
theorem eqA25 (d : Nat) (w : World) (x0 y0 : Int) (x1 y1 : Int) :
  (Op.equalIn (d + 2) 25 (.agg #[.int .i64 x0, .int .i64 x1]) (.agg #[.int .i64 y0, .int .i64 y1])).run Tryd.prog w = .ok (x0 == y0 && (x1 == y1)) w := by
 (refine eqA_of Tryd.underlying25 (by kernel_rfl) ?_); (refine eqf_cons (by rfl) (by go_simp; rfl) (by go_simp; rfl) (by go_simp) ?_); (exact eqf_last (by rfl) (by go_simp; rfl) (by go_simp; rfl) (by go_simp))
end Go.Proofs.YtlpkkkkgbnoiiaaDoor.H
end
section
namespace Go.Proofs.YtlpkkkkgbnoiiaaDoor.H
open Go.RowKit
set_option linter.unusedVariables false
set_option linter.unusedSimpArgs false
theorem rune_w_pos (s : ByteArray) (pos : Nat) : 1 ≤ (Utf8.decode s pos).2 := Lib.width_pos s pos
theorem rune_w_le (s : ByteArray) (pos : Nat) (h : pos < s.size) : pos + (Utf8.decode s pos).2 ≤ s.size := by
  have h1 := Lib.tail_decode s pos 0
  have h2 := Lib.width_le (s.extract pos s.size) (by simp; omega)
  rw [Lib.tail_decode] at h2
  simp at h2
  omega
def seamsFrom (s : ByteArray) : Nat → Nat → Int → Int → List (Int × Int × Int)
  | 0, _, l, c => [((s.size : Int), l, c)]
  | f + 1, pos, l, c => if pos < s.size then ((pos : Int), l, c) :: (if (Utf8.decode s pos).1 = 10 then seamsFrom s f (pos + (Utf8.decode s pos).2) (l + 1) 1 else seamsFrom s f (pos + (Utf8.decode s pos).2) l (c + 1)) else [((s.size : Int), l, c)]
def seamsL (s : ByteArray) : List (Int × Int × Int) := seamsFrom s s.size 0 1 1
theorem seamsFrom_end (s : ByteArray) (f pos : Nat) (l c : Int) (h : ¬ pos < s.size) : seamsFrom s f pos l c = [((s.size : Int), l, c)] := by
  cases f <;> simp [seamsFrom, h]
def runesFrom (s : ByteArray) : Nat → Nat → List S41
  | 0, _ => []
  | f + 1, pos => if pos < s.size then ⟨((Utf8.decode s pos).1 : Int), (pos : Int), ((Utf8.decode s pos).2 : Int)⟩ :: runesFrom s f (pos + (Utf8.decode s pos).2) else []
def runesL (s : ByteArray) : List S41 := runesFrom s s.size 0
theorem runesFrom_end (s : ByteArray) (f pos : Nat) (h : ¬ pos < s.size) : runesFrom s f pos = [] := by
  cases f <;> simp [runesFrom, h]
end Go.Proofs.YtlpkkkkgbnoiiaaDoor.H
end
section
namespace Go.Proofs.YtlpkkkkgbnoiiaaDoor.H
open Go.RowKit Go.Proofs.YtlpkkkkgbnoiiaaDoorW.PrintWords Go.Proofs.YtlpkkkkgbnoiiaaDoorW.PrintLast Go.Proofs.YtlpkkkkgbnoiiaaDoorW.PrintMore
attribute [local go_sem] max2_int min2_int max_two min_two max_three min_three max_four min_four
set_option linter.unusedVariables false
set_option linter.unusedSimpArgs false
def utf8_ValidRune.j0 : Nat → Int → Bool → Option (Bool)
 | 0, _, _ => none
 | k + 1, x0, x3 => if x3 = true then (some true) else (if 57343 < x0 then (if x0 ≤ 1114111 then (some true) else (some false)) else (some false))
def utf8_ValidRune.f (k : Nat) (a0 : Int) : Option (Bool) := if 0 ≤ a0 then (utf8_ValidRune.j0 k a0 (decide (a0 < 55296))) else (utf8_ValidRune.j0 k a0 false)
theorem utf8_ValidRune.mono_l : ∀ k, (∀ y0 y1, LeO (utf8_ValidRune.j0 k y0 y1) (utf8_ValidRune.j0 (k + 1) y0 y1))
 | 0 => fun _ _ r h => by simp [utf8_ValidRune.j0] at h
 | k + 1 => by
  have ih0 := utf8_ValidRune.mono_l k
  ·intro y0 y1
   unfold utf8_ValidRune.j0
   repeat' first
   | (with_reducible exact ih0 _ _)
   | (with_reducible exact LeO.refl _)
   | (with_reducible exact LeO.none _)
   | (with_reducible refine LeO.ite ?_ ?_)
   | (with_reducible refine LeO.bind ?_ (fun _ => ?_))
   | exact ih0 _ _
   | exact LeO.none _
   | refine LeO.ite ?_ ?_
   | refine LeO.bind ?_ (fun _ => ?_)
theorem utf8_ValidRune.mono : ∀ a0 k, LeO (utf8_ValidRune.f k a0) (utf8_ValidRune.f (k + 1) a0) := by
 (intro a0 k); (have ih0 := utf8_ValidRune.mono_l k); (unfold utf8_ValidRune.f)
 repeat' first
   | (with_reducible exact ih0 _ _)
   | (with_reducible exact LeO.refl _)
   | (with_reducible exact LeO.none _)
   | (with_reducible refine LeO.ite ?_ ?_)
   | (with_reducible refine LeO.bind ?_ (fun _ => ?_))
   | exact ih0 _ _
   | exact LeO.none _
   | refine LeO.ite ?_ ?_
   | refine LeO.bind ?_ (fun _ => ?_)
set_option maxHeartbeats 8000000 in
set_option maxRecDepth 100000 in
theorem utf8_ValidRune.calls (k : Nat) (a0 : Int) (r : Bool) (w : World) (h : utf8_ValidRune.f k a0 = some r) :
  Calls Tryd.prog 52 #[.int .i32 a0] w fun e w' => e = .returned (.bool r) ∧ Drawn0 w w' := by
 (have H : (if 0 ≤ a0 then (utf8_ValidRune.j0 k a0 (decide (a0 < 55296))) else (utf8_ValidRune.j0 k a0 false)) = some r := h); clear h; (have HC2 := qM H); clear H; (go_enter Tryd.func52, Tryd.ntmps52); (go_upto_region 1 with (fail)); (go_cut [3] (fun v3 wc => ∃ (kq : Nat) (x3_1 : Bool), v3 = .bool x3_1 ∧ Aside0 (utf8_ValidRune.j0 kq a0 x3_1 = some r) ∧ Aside0 (kq ≤ k) ∧ Drawn0 w wc))
 case first =>
  (have H := HC2.out); clear HC2; (by_cases c3 : 0 ≤ a0)
  ·rw [if_pos c3] at H
   (have c3b0 : decide (0 ≤ a0) = true := decide_eq_true c3); clear c3; ((first | rw [c3b0] | (simp only [i64_w, i32_w]; rw [c3b0]) | skip)); (have H' := qM H); clear H; go_wp2; go_meet
   case rel => exact ⟨_, (decide (a0 < 55296)), (by first | rfl | (simp; done) | (simp [*]; done)), H', ⟨by first | omega | exact Nat.le_refl _⟩, by repeat (first | exact Drawn0.refl _ | apply Drawn0.step)⟩
  ·rw [if_neg c3] at H
   (have c3b0 : decide (0 ≤ a0) = false := decide_eq_false c3); clear c3; ((first | rw [c3b0] | (simp only [i64_w, i32_w]; rw [c3b0]) | skip)); (have H' := qM H); clear H; go_wp2; go_meet
   case rel => exact ⟨_, (false), (by first | rfl | (simp; done) | (simp [*]; done)), H', ⟨by first | omega | exact Nat.le_refl _⟩, by repeat (first | exact Drawn0.refl _ | apply Drawn0.step)⟩
 case rest =>
  clear HC2; (try clear p2); (try clear c3); (try clear c3b0); (obtain ⟨kq, x3_1, rfl, HA, HJ1, ⟨mc1, rfl⟩⟩ := hcut)
  cases kq with
  | zero => exact absurd HA.out (by simp [utf8_ValidRune.j0])
  | succ kj1 =>
   (have H := HA.out); clear HA; (simp only [utf8_ValidRune.j0] at H); (by_cases c4 : x3_1 = true)
   ·subst c4
    (have H1 : (some true) = some r := by rw [if_pos rfl] at H; exact H); clear H; (have H := H1); clear H1; (obtain rfl := Option.some.inj H); go_wp2; (go_ret); (exact ⟨by first | rfl | (simp; done) | (simp [*]; done), by repeat (first | exact Drawn0.refl _ | apply Drawn0.step)⟩)
   ·replace c4 := Bool.eq_false_iff.mpr c4
    subst c4; (have H1 : (if 57343 < a0 then (if a0 ≤ 1114111 then (some true) else (some false)) else (some false)) = some r := by rw [if_neg (show ¬ (false = true) by decide)] at H; exact H); clear H; (have H := H1); clear H1; (by_cases c5 : 57343 < a0)
    ·rw [if_pos c5] at H
     (have c5b0 : decide (57343 < a0) = true := decide_eq_true c5); clear c5; (by_cases c6 : a0 ≤ 1114111)
     ·rw [if_pos c6] at H
      (have c6b0 : decide (a0 ≤ 1114111) = true := decide_eq_true c6); clear c6; (obtain rfl := Option.some.inj H); go_wp2; (go_ret); (exact ⟨by first | rfl | (simp; done) | (simp [*]; done), by repeat (first | exact Drawn0.refl _ | apply Drawn0.step)⟩)
     ·rw [if_neg c6] at H
      (have c6b0 : decide (a0 ≤ 1114111) = false := decide_eq_false c6); clear c6; (obtain rfl := Option.some.inj H); go_wp2; (go_ret); (exact ⟨by first | rfl | (simp; done) | (simp [*]; done), by repeat (first | exact Drawn0.refl _ | apply Drawn0.step)⟩)
    ·rw [if_neg c5] at H
     (have c5b0 : decide (57343 < a0) = false := decide_eq_false c5); clear c5; (obtain rfl := Option.some.inj H); go_wp2; (go_ret); (exact ⟨by first | rfl | (simp; done) | (simp [*]; done), by repeat (first | exact Drawn0.refl _ | apply Drawn0.step)⟩)
def arboristlaw01_few.f (a0 : ByteArray) : Option (Bool) := some (decide ((a0.size : Int) ≤ 300))
set_option maxHeartbeats 8000000 in
set_option maxRecDepth 100000 in
theorem arboristlaw01_few.calls (a0 : ByteArray) (r : Bool) (w : World) (h : arboristlaw01_few.f a0 = some r) :
  Calls Tryd.prog 9 #[.string a0] w fun e w' => e = .returned (.bool r) ∧ Drawn0 w w' := by
 (have H : (some (decide ((a0.size : Int) ≤ 300))) = some r := h); clear h; (obtain rfl := Option.some.inj H); (go_enter Tryd.func9, Tryd.ntmps9); go_wp2; (go_ret); (exact ⟨by first | rfl | (simp; done) | (simp [*]; done), by repeat (first | exact Drawn0.refl _ | apply Drawn0.step)⟩)
end Go.Proofs.YtlpkkkkgbnoiiaaDoor.H
end
section
namespace Go.Proofs.YtlpkkkkgbnoiiaaDoor.H
open Go.RowKit Go.Proofs.YtlpkkkkgbnoiiaaDoorW.PrintWords Go.Proofs.YtlpkkkkgbnoiiaaDoorW.PrintLast Go.Proofs.YtlpkkkkgbnoiiaaDoorW.PrintMore
open Go.Maps
set_option linter.unusedVariables false
set_option linter.unusedSimpArgs false
def oneOf (s : ByteArray) : Int × Int := if s.size = 0 then (0, 0) else (((Utf8.decode s 0).1 : Int), ((Utf8.decode s 0).2 : Int))
def arboristref01_one.f (a0 : ByteArray) : Option (Int × Int) := some (oneOf a0)
theorem ret_two {a b c d : Int} (h : (a, b) = (c, d)) : Ending.returned (.tuple #[.int .i32 a, .int .i64 b]) = .returned (.tuple #[.int .i32 c, .int .i64 d]) := by
  obtain ⟨rfl, rfl⟩ : a = c ∧ b = d := by simpa using h
  rfl
def OneRel (s : ByteArray) (w : World) (v4 v5 : Value) (wr : World) : Prop :=
  Below w.heap.size w wr ∧ v4 = .int .i64 s.size ∧ ((wr.heap[w.heap.size]? = some (.stringIter s 0) ∧ v5 = .int .i32 0) ∨ (0 < s.size ∧ wr.heap[w.heap.size]? = some (.stringIter s (Utf8.decode s 0).2) ∧ v5 = .int .i32 (Utf8.decode s 0).1))
set_option maxRecDepth 100000 in
set_option maxHeartbeats 1000000 in
theorem arboristref01_one.calls (a0 : ByteArray) (r1 : Int) (r2 : Int) (w : World) (h : arboristref01_one.f a0 = some (r1, r2)) :
    Calls Tryd.prog 30 #[.string a0] w fun e w' => e = .returned (.tuple #[.int .i32 r1, .int .i64 r2]) ∧ Below w.heap.size w w' := by
  have HP := Aside0.mk (Option.some.inj h)
  clear h
  go_enter Tryd.func30, Tryd.ntmps30
  go_wp2
  go_loopw [4, 5] (fun v4 v5 wr => OneRel a0 w v4 v5 wr) (fun _ _ wr => a0.size - wr.iterPos w.heap.size)
  case atStart => exact ⟨below_alloc (Below.refl _ _) _, rfl, .inl ⟨World.iter_heap w a0 0, rfl⟩⟩
  case round =>
    obtain ⟨hB, rfl, (⟨hit, rfl⟩ | ⟨h0, hit, rfl⟩)⟩ := hrel
    · by_cases hp : 0 < a0.size
      · have hnx : ∀ ty, (Instr.next (.pointer (some ⟨w.heap.size, 0, none⟩)) true ty).run Tryd.prog wr = _ := fun ty => Lib.run_next_any_at wr w.heap.size a0 0 ty hit hp
        have hwd := rune_w_pos a0 0
        have hit2 := Lib.iterAt_heap wr w.heap.size a0 0 (0 + (Utf8.decode a0 0).2) hit
        have hb2 := Lib.below_iterAt hB (k := w.heap.size) (Nat.le_refl _) a0 (0 + (Utf8.decode a0 0).2)
        rw [Nat.zero_add] at hit2 hb2
        have HIT := Aside0.mk hit
        have HIT2 := Aside0.mk hit2
        have HB2 := Aside0.mk hb2
        clear hit hit2 hb2 hB
        go_wp2
        go_roundw
        case rel => exact ⟨HB2.out, rfl, .inr ⟨hp, HIT2.out, rfl⟩⟩
        case measure => simp only [World.iterPos, HIT.out, HIT2.out]; omega
      · have hnx : ∀ ty, (Instr.next (.pointer (some ⟨w.heap.size, 0, none⟩)) true ty).run Tryd.prog wr = _ := fun ty => Lib.run_next_end_at wr w.heap.size a0 0 ty hit hp
        have HB := Aside0.mk hB
        clear hit hB
        go_wp2
        go_ret2
        exact ⟨ret_two (by rw [← HP.out]; have hz : a0.size = 0 := (by omega); simp [oneOf, hz]), HB.out⟩
    · by_cases hp : (Utf8.decode a0 0).2 < a0.size
      · have hnx : ∀ ty, (Instr.next (.pointer (some ⟨w.heap.size, 0, none⟩)) true ty).run Tryd.prog wr = _ := fun ty => Lib.run_next_any_at wr w.heap.size a0 _ ty hit hp
        have hwd := rune_w_pos a0 0
        have hb2 := Lib.below_iterAt hB (k := w.heap.size) (Nat.le_refl _) a0 ((Utf8.decode a0 0).2 + (Utf8.decode a0 (Utf8.decode a0 0).2).2)
        have HB2 := Aside0.mk hb2
        clear hit hb2 hB
        have h1 : 0 < ((Utf8.decode a0 0).2 : Int) := by omega
        go_wp2
        go_ret2
        exact ⟨ret_two (by rw [← HP.out]; unfold oneOf; rw [if_neg (by omega)]), HB2.out⟩
      · have hnx : ∀ ty, (Instr.next (.pointer (some ⟨w.heap.size, 0, none⟩)) true ty).run Tryd.prog wr = _ := fun ty => Lib.run_next_end_at wr w.heap.size a0 _ ty hit hp
        have HB := Aside0.mk hB
        clear hit hB
        have hwl := rune_w_le a0 0 h0
        go_wp2
        go_ret2
        exact ⟨ret_two (by rw [← HP.out]; unfold oneOf; rw [if_neg (by omega)]; simp; omega), HB.out⟩
end Go.Proofs.YtlpkkkkgbnoiiaaDoor.H
end
section
namespace Go.Proofs.YtlpkkkkgbnoiiaaDoor.H
open Go.RowKit Go.Proofs.YtlpkkkkgbnoiiaaDoorW.PrintWords Go.Proofs.YtlpkkkkgbnoiiaaDoorW.PrintLast Go.Proofs.YtlpkkkkgbnoiiaaDoorW.PrintMore
attribute [local go_sem] max2_int min2_int max_two min_two max_three min_three max_four min_four
set_option linter.unusedVariables false
set_option linter.unusedSimpArgs false
def arboristref01_Runes.l0 : Nat → ByteArray → List (S41) → Int → Option ((List (S41)))
 | 0, _, _, _ => none
 | k + 1, x0, x3, x4 => if x4 < (x0.size : Int) then (if 0 ≤ x4 then (if x4 ≤ (x0.size : Int) then ((arboristref01_one.f (x0.extract (x4 : Int).toNat x0.size)).bind fun bt118 => (if x3.length < 5864062014805 then (arboristref01_Runes.l0 k x0 (x3 ++ [(⟨bt118.1, x4, bt118.2⟩ : S41)]) (wrap64 (x4 + bt118.2))) else (none))) else (none)) else (none)) else (some x3)
def arboristref01_Runes.f (k : Nat) (a0 : ByteArray) : Option ((List (S41))) := arboristref01_Runes.l0 k a0 ([] : List (S41)) 0
theorem arboristref01_Runes.mono_l : ∀ k, (∀ y0 y1 y2, LeO (arboristref01_Runes.l0 k y0 y1 y2) (arboristref01_Runes.l0 (k + 1) y0 y1 y2))
 | 0 => fun _ _ _ r h => by simp [arboristref01_Runes.l0] at h
 | k + 1 => by
  have ih0 := arboristref01_Runes.mono_l k
  ·intro y0 y1 y2
   unfold arboristref01_Runes.l0
   repeat' first
   | (with_reducible exact ih0 _ _ _)
   | (with_reducible exact LeO.refl _)
   | (with_reducible exact LeO.none _)
   | (with_reducible refine LeO.ite ?_ ?_)
   | (with_reducible refine LeO.bind ?_ (fun _ => ?_))
   | exact ih0 _ _ _
   | exact LeO.none _
   | refine LeO.ite ?_ ?_
   | refine LeO.bind ?_ (fun _ => ?_)
theorem arboristref01_Runes.mono : ∀ a0 k, LeO (arboristref01_Runes.f k a0) (arboristref01_Runes.f (k + 1) a0) := by
 (intro a0 k); (have ih0 := arboristref01_Runes.mono_l k); (unfold arboristref01_Runes.f)
 repeat' first
   | (with_reducible exact ih0 _ _ _)
   | (with_reducible exact LeO.refl _)
   | (with_reducible exact LeO.none _)
   | (with_reducible refine LeO.ite ?_ ?_)
   | (with_reducible refine LeO.bind ?_ (fun _ => ?_))
   | exact ih0 _ _ _
   | exact LeO.none _
   | refine LeO.ite ?_ ?_
   | refine LeO.bind ?_ (fun _ => ?_)
set_option maxHeartbeats 8000000 in
set_option maxRecDepth 100000 in
theorem arboristref01_Runes.calls (k : Nat) (a0 : ByteArray) (r : List (S41)) (w : World) (h : arboristref01_Runes.f k a0 = some r) :
  Calls Tryd.prog 15 #[.string a0] w fun e w' => ∃ v0_ : Value, e = .returned (v0_) ∧ Kd.R k41 41 w' w.heap.size (fun _ => True) v0_ r ∧ Below w.heap.size w w' := by
 (have hu41 := Tryd.underlying41); (have HB := qM (Below.refl w.heap.size w)); (have H : (arboristref01_Runes.l0 k a0 ([] : List (S41)) 0) = some r := h); clear h; (have H' := qM H); clear H; (go_enter Tryd.func15, Tryd.ntmps15); go_wp2; (go_loopg [3, 4] k (fun kq v3 v4 w' => ∃ (x3_1 : List (S41)) (x4_1 : Int), v4 = .int .i64 x4_1 ∧ Aside0 (arboristref01_Runes.l0 kq a0 x3_1 x4_1 = some r) ∧ Aside0 (kq ≤ k) ∧ Aside0 (Kd.R k41 41 w' w.heap.size (fun _ => True) v3 x3_1) ∧ Aside0 (Below w.heap.size w w')))
 case atStart => exact ⟨(([] : List (S41))), (0), (by first | rfl | (simp; done) | (simp [*]; done)), H', ⟨Nat.le_refl _⟩, ⟨by first | exact Kd.R_nil _ _ _ _ _ | exact Kd.N_nil _ _ _ _ _ | exact Kd.V_nil _ _ _ _ _ | exact Kd.Q_nil _ _ _ _ _ | exact Kd.S_nil _ _ _ _ _⟩, ⟨by repeat (first | (with_reducible first | exact HB.out | apply qA | apply qN | apply qD) | exact HB.out)⟩⟩
 case round =>
  (clear H'); (try clear c1); (obtain ⟨x3_1, x4_1, rfl, HA, HK1, HO_3, HB⟩ := hrel)
  cases gk with
  | zero => exact absurd HA.out (by simp [arboristref01_Runes.l0])
  | succ k1 =>
   (have H := HA.out); clear HA; (simp only [arboristref01_Runes.l0] at H); (by_cases c2 : x4_1 < (a0.size : Int))
   ·rw [if_pos c2] at H
    (have c2b0 : decide (x4_1 < (a0.size : Int)) = true := decide_eq_true c2); clear c2; (by_cases c3 : 0 ≤ x4_1)
    ·rw [if_pos c3] at H
     (have c3b0 := eq_true c3); (have c3b1 : decide (0 ≤ x4_1) = true := decide_eq_true c3); clear c3; (by_cases c4 : x4_1 ≤ (a0.size : Int))
     ·rw [if_pos c4] at H
      (have c4b0 := eq_true c4); (have c4b1 : decide (x4_1 ≤ (a0.size : Int)) = true := decide_eq_true c4); clear c4; (replace H := Option.bind_eq_some_iff.mp H); (obtain ⟨⟨t118, t119⟩, A50, H⟩ := H); (replace H : (if x3_1.length < 5864062014805 then (arboristref01_Runes.l0 k1 a0 (x3_1 ++ [(⟨t118, x4_1, t119⟩ : S41)]) (wrap64 (x4_1 + t119))) else (none)) = some r := H); (have A5 := qM A50); clear A50; (by_cases c6 : x3_1.length < 5864062014805)
      ·rw [if_pos c6] at H
       (have LMc6 := qM c6); clear c6; (obtain ⟨y120, hy120⟩ : ∃ y_ : List (S41), y_ = (x3_1 ++ [(⟨t118, x4_1, t119⟩ : S41)]) := ⟨_, rfl⟩); (replace H : (arboristref01_Runes.l0 k1 a0 y120 (wrap64 (x4_1 + t119))) = some r := by first | (rw [hy120]; with_reducible exact H) | (have H2_ := (Option.bind_some _ _).symm.trans H; rw [hy120]; with_reducible exact H2_) | (have H2_ := (Option.bind_some _ _).symm.trans H; with_reducible exact H2_) | with_reducible exact H | (rw [hy120]; exact H) | exact H); (have Ny120 := qM hy120); clear hy120; (have H' := qM H); clear H
       go_wp2_with (first | ((with_reducible refine gate_callee (f := 30) rfl ?_); refine goesL_ (some 15) rfl rfl Tryd.func30 (by kernel_rfl) rfl #[.string (a0.extract (x4_1 : Int).toNat a0.size)] rfl (by (try simp only [List.map_toArray, List.map_cons, List.map_nil]); first | done | rfl | (simp only [List.length_drop, List.length_take]; rfl)) ?_; (with_reducible refine (arboristref01_one.calls (a0.extract (x4_1 : Int).toNat a0.size) t118 t119 _ A5.out).mono ?_); rintro e w7 ⟨rfl, hb⟩; refine ⟨_, rfl, ?_⟩; have n0_ := qM (Kd.R_below (by (with_reducible repeat (first | apply Kd.R_alloc | apply Kd.R_drewN | apply Kd.R_drew)); exact HO_3.out) hb); have n1_ := qM (qP (by repeat (first | (with_reducible first | exact HB.out | apply qA | apply qN | apply qD) | exact HB.out)) hb); clear HO_3; clear HB; have HO_3 := n0_; have HB := n1_; clear n0_ n1_; (try clear hb); (try clear hb2); (try clear hk); (try clear hi)) | ((with_reducible refine gate_builtin (b := .append) (xs := #[.tmp 18, .tmp 23]) rfl ?_); at_builtin; refine Kd.R_append k41 (w0 := w) w.heap.size rfl (.tmp 18) (.tmp 23) 29 41 (.agg #[(.int .i32 0), (.int .i64 0), (.int .i64 0)]) 24 rfl Tryd.underlying29 info41 rfl (by decide) (by omega) u3 x3_1 (⟨t118, x4_1, t119⟩ : S41) [.int .i32 t118, .int .i64 x4_1, .int .i64 t119] (fun _ => True) (fun _ => False) rfl rfl ?aP (fun _ hk => hk.elim) ?aF ?aO ?aB ?aS ?aL ?_; (case aP => exact k41_mkM _ _ _ (⟨t118, x4_1, t119⟩ : S41)); (case aB => exact (by repeat (first | (with_reducible first | exact HB.out | apply qA | apply qN | apply qD) | exact HB.out))); (case aF => exact (fun _ _ => trivial)); (case aO => exact (by (with_reducible repeat (first | apply Kd.R_alloc | apply Kd.R_drewN | apply Kd.R_drew)); exact HO_3.out)); (case aS => exact (qZ (by repeat (first | (with_reducible first | exact HB.out | apply qA | apply qN | apply qD) | exact HB.out)))); (case aL => have := LMc6.out; omega); intro v121 w8 ho hb hg hat; rw [← Ny120.out] at ho; have n0_ := qM (hb); have n1_ := qM (ho); clear HB; clear HO_3; have HB := n0_; have HO122 := n1_; clear n0_ n1_; clear ho hb hg hat))
       go_roundg k1
       case measure => have := HK1.out; omega
       case rel => exact ⟨(y120), (wrap64 (x4_1 + t119)), (by first | rfl | (simp; done) | (simp [*]; done)), H', ⟨by have := HK1.out; omega⟩, ⟨by (with_reducible repeat (first | apply Kd.R_alloc | apply Kd.R_drewN | apply Kd.R_drew)); exact HO122.out⟩, ⟨by repeat (first | (with_reducible first | exact HB.out | apply qA | apply qN | apply qD) | exact HB.out)⟩⟩
      ·rw [if_neg c6] at H
       exact absurd H (by simp)
     ·rw [if_neg c4] at H
      exact absurd H (by simp)
    ·rw [if_neg c3] at H
     exact absurd H (by simp)
   ·rw [if_neg c2] at H
    (have c2b0 : decide (x4_1 < (a0.size : Int)) = false := decide_eq_false c2); clear c2; (obtain rfl := Option.some.inj H); go_wp2; (go_ret); (exact ⟨_, by first | rfl | (simp [errW_none, errW_some] <;> rfl) | (simp [*, errW_none, errW_some] <;> rfl), by (with_reducible repeat (first | apply Kd.R_alloc | apply Kd.R_drewN | apply Kd.R_drew)); exact HO_3.out, by repeat (first | (with_reducible first | exact HB.out | apply qA | apply qN | apply qD) | exact HB.out)⟩)
def arboristref01_Position.l0 : Nat → ByteArray → Int → List (S41) → Int → Int → Int → Option (Int × Int × Bool)
 | 0, _, _, _, _, _, _ => none
 | k + 1, x0, x1, x7, x8, x125000, x125001 => if x8 < (x7.length : Int) then (if 0 ≤ x8 then (if ((rd_T41 x7 x8).f1) = x1 then (some (x125000, x125001, true)) else (if ((rd_T41 x7 x8).f0) = 10 then (arboristref01_Position.l0 k x0 x1 x7 (wrap64 (x8 + 1)) (wrap64 (x125000 + 1)) 1) else (arboristref01_Position.l0 k x0 x1 x7 (wrap64 (x8 + 1)) x125000 (wrap64 (x125001 + 1))))) else (none)) else (if x1 = (x0.size : Int) then (some (x125000, x125001, true)) else (some (0, 0, false)))
def arboristref01_Position.f (k : Nat) (a0 : ByteArray) (a1 : Int) : Option (Int × Int × Bool) := (arboristref01_Runes.f k a0).bind fun t125 => (arboristref01_Position.l0 k a0 a1 t125 0 1 1)
theorem arboristref01_Position.mono_l : ∀ k, (∀ y0 y1 y2 y3 y4 y5, LeO (arboristref01_Position.l0 k y0 y1 y2 y3 y4 y5) (arboristref01_Position.l0 (k + 1) y0 y1 y2 y3 y4 y5))
 | 0 => fun _ _ _ _ _ _ r h => by simp [arboristref01_Position.l0] at h
 | k + 1 => by
  have ih0 := arboristref01_Position.mono_l k
  ·intro y0 y1 y2 y3 y4 y5
   unfold arboristref01_Position.l0
   repeat' first
   | (with_reducible exact ih0 _ _ _ _ _ _)
   | (with_reducible exact arboristref01_Runes.mono _ _)
   | (with_reducible exact LeO.refl _)
   | (with_reducible exact LeO.none _)
   | (with_reducible refine LeO.ite ?_ ?_)
   | (with_reducible refine LeO.bind ?_ (fun _ => ?_))
   | exact ih0 _ _ _ _ _ _
   | exact arboristref01_Runes.mono _ _
   | exact LeO.none _
   | refine LeO.ite ?_ ?_
   | refine LeO.bind ?_ (fun _ => ?_)
theorem arboristref01_Position.mono : ∀ a0 a1 k, LeO (arboristref01_Position.f k a0 a1) (arboristref01_Position.f (k + 1) a0 a1) := by
 (intro a0 a1 k); (have ih0 := arboristref01_Position.mono_l k); (unfold arboristref01_Position.f)
 repeat' first
   | (with_reducible exact ih0 _ _ _ _ _ _)
   | (with_reducible exact arboristref01_Runes.mono _ _)
   | (with_reducible exact LeO.refl _)
   | (with_reducible exact LeO.none _)
   | (with_reducible refine LeO.ite ?_ ?_)
   | (with_reducible refine LeO.bind ?_ (fun _ => ?_))
   | exact ih0 _ _ _ _ _ _
   | exact arboristref01_Runes.mono _ _
   | exact LeO.none _
   | refine LeO.ite ?_ ?_
   | refine LeO.bind ?_ (fun _ => ?_)
set_option maxHeartbeats 8000000 in
set_option maxRecDepth 100000 in
theorem arboristref01_Position.calls (k : Nat) (a0 : ByteArray) (a1 : Int) (r1 : Int) (r2 : Int) (r3 : Bool) (w : World) (h : arboristref01_Position.f k a0 a1 = some (r1, r2, r3)) :
  Calls Tryd.prog 12 #[.string a0, .int .i64 a1] w fun e w' => e = .returned (.tuple #[.agg #[.int .i64 r1, .int .i64 r2], .bool r3]) ∧ Below w.heap.size w w' := by
 (have hu25 := Tryd.underlying25); (have HB := qM (Below.refl w.heap.size w)); (have H : ((arboristref01_Runes.f k a0).bind fun t125 => (arboristref01_Position.l0 k a0 a1 t125 0 1 1)) = some (r1, r2, r3) := h); clear h; (replace H := Option.bind_eq_some_iff.mp H); (obtain ⟨t125, A30, H⟩ := H); (replace H : (arboristref01_Position.l0 k a0 a1 t125 0 1 1) = some (r1, r2, r3) := H); (have A3 := qM A30); clear A30; (have H' := qM H); clear H; (go_enter Tryd.func12, Tryd.ntmps12)
 go_wp2_with (first | ((with_reducible refine gate_dst (N := 4) rfl ?_); refine box_event ?hg (N := 4) ?hd (cs := #[.int .i64 0, .int .i64 0]) (t := 25) ?hr ?_; (case hd => rfl); (case hg => rfl); (case hr => first | (go_simp; done) | (go_simp; rfl)); intro gb123 hg w4 hbox hb; have n0_ := qM (qP (by repeat (first | (with_reducible first | exact HB.out | apply qA | apply qN | apply qD) | exact HB.out)) hb); have n1_ := qM (hbox); have n2_ := qM ((by rw [hg]; exact (qZ (by repeat (first | (with_reducible first | exact HB.out | apply qA | apply qN | apply qD) | exact HB.out))) : w.heap.size ≤ gb123)); have n3_ := qM ((by rw [hg]; exact (qZ (by repeat (first | (with_reducible first | exact HB.out | apply qA | apply qN | apply qD) | exact HB.out))) : w.heap.size ≤ gb123)); clear HB; have HB := n0_; have BK123 := n1_; have GW123 := n2_; have GE123 := n3_; clear n0_ n1_ n2_ n3_; clear hb hbox hg) | ((with_reducible refine gate_dst (N := 6) rfl ?_); refine box_event ?hg (N := 6) ?hd (cs := #[.int .i64 0, .int .i64 0]) (t := 25) ?hr ?_; (case hd => rfl); (case hg => rfl); (case hr => first | (go_simp; done) | (go_simp; rfl)); intro gb124 hg w5 hbox hb; have n0_ := qM (qb (g := gb123) (o := .cells #[.int .i64 0, .int .i64 0] 25 (0, 0)) (by (with_reducible repeat (first | refine qn ?_ _ | refine qd ?_ | refine qa ?_ _)); exact BK123.out) hb); have n1_ := qM (qP (by repeat (first | (with_reducible first | exact HB.out | apply qA | apply qN | apply qD | refine qS ?_ GE123.out) | exact HB.out)) hb); have n2_ := qM (hbox); have n3_ := qM ((by rw [hg]; exact (qZ (by repeat (first | (with_reducible first | exact HB.out | apply qA | apply qN | apply qD | refine qS ?_ GE123.out) | exact HB.out))) : w.heap.size ≤ gb124)); have n4_ := qM ((by rw [hg]; exact (qZ (by repeat (first | (with_reducible first | exact HB.out | apply qA | apply qN | apply qD | refine qS ?_ GE123.out) | exact HB.out))) : w.heap.size ≤ gb124)); have n5_ := qM ((by rw [hg]; exact Nat.ne_of_lt (ql (g := gb123) (o := .cells #[.int .i64 0, .int .i64 0] 25 (0, 0)) (by (with_reducible repeat (first | refine qn ?_ _ | refine qd ?_ | refine qa ?_ _)); exact BK123.out)) : gb123 ≠ gb124)); have n6_ := qM ((by rw [hg]; exact Nat.ne_of_gt (ql (g := gb123) (o := .cells #[.int .i64 0, .int .i64 0] 25 (0, 0)) (by (with_reducible repeat (first | refine qn ?_ _ | refine qd ?_ | refine qa ?_ _)); exact BK123.out)) : gb124 ≠ gb123)); clear BK123; clear HB; have BK123 := n0_; have HB := n1_; have BK124 := n2_; have GW124 := n3_; have GE124 := n4_; have NB123_124 := n5_; have NB124_123 := n6_; clear n0_ n1_ n2_ n3_ n4_ n5_ n6_; clear hb hbox hg; have hnb6 := NB124_123.out; have hnc6 := NB123_124.out; obtain ⟨hcz7_0, hcz7_1, hfz7_0, hfz7_1⟩ := bx2 BK124.out) | ((with_reducible refine gate_callee (f := 15) rfl ?_); refine goesL_ (some 11) rfl rfl Tryd.func15 (by kernel_rfl) rfl #[.string a0] rfl (by (try simp only [List.map_toArray, List.map_cons, List.map_nil]); first | done | rfl | (simp only [List.length_drop, List.length_take]; rfl)) ?_; (with_reducible refine (arboristref01_Runes.calls k a0 t125 _ A3.out).mono ?_); rintro e w8 ⟨v126, rfl, ho0, hb⟩; refine ⟨_, rfl, ?_⟩; have n0_ := qM (Kd.R_lower ho0 (qZ (by repeat (first | (with_reducible first | exact HB.out | apply qA | apply qN | apply qD | refine qS ?_ GE123.out | refine qS ?_ GE124.out) | exact HB.out)))); have n1_ := qM (qb (g := gb123) (o := .cells #[.int .i64 0, .int .i64 0] 25 (0, 0)) (by (with_reducible repeat (first | refine qn ?_ _ | refine qd ?_ | refine qa ?_ _)); refine qf ?_ NB123_124.out _; (with_reducible repeat (first | refine qn ?_ _ | refine qd ?_ | refine qa ?_ _)); refine qf ?_ NB123_124.out _; (with_reducible repeat (first | refine qn ?_ _ | refine qd ?_ | refine qa ?_ _)); exact BK123.out) hb); have n2_ := qM (qb (g := gb124) (o := .cells #[.int .i64 1, .int .i64 1] 25 (0, 0)) (by (with_reducible repeat (first | refine qn ?_ _ | refine qd ?_ | refine qa ?_ _)); refine blk_put (cs := #[.int .i64 1, .int .i64 0]) ?_ 1 _ rfl; (with_reducible repeat (first | refine qn ?_ _ | refine qd ?_ | refine qa ?_ _)); refine blk_put (cs := #[.int .i64 0, .int .i64 0]) ?_ 0 _ rfl; (with_reducible repeat (first | refine qn ?_ _ | refine qd ?_ | refine qa ?_ _)); exact BK124.out) hb); have n3_ := qM (qP (by repeat (first | (with_reducible first | exact HB.out | apply qA | apply qN | apply qD | refine qS ?_ GE123.out | refine qS ?_ GE124.out) | exact HB.out)) hb); clear BK123; clear BK124; clear HB; have HO127 := n0_; have BK123 := n1_; have BK124 := n2_; have HB := n3_; clear n0_ n1_ n2_ n3_; (try clear hb); (try clear hb2); (try clear hk); (try clear hi); (try clear ho0)))
 go_loopg [8] k (fun kq v8 w' => ∃ (x8_1 : Int) (x124000_1 : Int) (x124001_1 : Int) (x125000_1 : Int) (x125001_1 : Int), v8 = .int .i64 x8_1 ∧ Aside0 (arboristref01_Position.l0 kq a0 a1 t125 x8_1 x125000_1 x125001_1 = some (r1, r2, r3)) ∧ Aside0 (kq ≤ k) ∧ Aside0 (Kd.R k41 41 w' w.heap.size (fun _ => True) v126 t125) ∧ Aside0 (w'.heap[gb123]? = some (.cells #[.int .i64 x124000_1, .int .i64 x124001_1] 25 (0, 0))) ∧ Aside0 (w'.heap[gb124]? = some (.cells #[.int .i64 x125000_1, .int .i64 x125001_1] 25 (0, 0))) ∧ Aside0 (Below w.heap.size w w'))
 case atStart => exact ⟨(0), (0), (0), (1), (1), (by first | rfl | (simp; done) | (simp [*]; done)), H', ⟨Nat.le_refl _⟩, ⟨by (with_reducible repeat (first | apply Kd.R_alloc | apply Kd.R_drewN | apply Kd.R_drew)); exact HO127.out⟩, ⟨by (with_reducible repeat (first | refine qn ?_ _ | refine qd ?_ | refine qa ?_ _)); exact BK123.out⟩, ⟨by (with_reducible repeat (first | refine qn ?_ _ | refine qd ?_ | refine qa ?_ _)); exact BK124.out⟩, ⟨by repeat (first | (with_reducible first | exact HB.out | apply qA | apply qN | apply qD | refine qS ?_ GE123.out | refine qS ?_ GE124.out) | exact HB.out)⟩⟩
 case round =>
  (clear H'); (try clear c1); (try clear p2); (try clear c6); (try clear hcz7_0 hcz7_1); (try clear hfz7_0 hfz7_1); (obtain ⟨x8_1, x124000_1, x124001_1, x125000_1, x125001_1, rfl, HA, HK1, HO_7, BK123, BK124, HB⟩ := hrel)
  cases gk with
  | zero => exact absurd HA.out (by simp [arboristref01_Position.l0])
  | succ k1 =>
   (have H := HA.out); clear HA; (simp only [arboristref01_Position.l0] at H); (by_cases c9 : x8_1 < (t125.length : Int))
   ·rw [if_pos c9] at H
    (have c9b0 : decide (x8_1 < (t125.length : Int)) = true := decide_eq_true c9); clear c9; (by_cases c10 : 0 ≤ x8_1)
    ·rw [if_pos c10] at H
     (have c10b0 : decide (0 ≤ x8_1) = true := decide_eq_true c10); clear c10; (by_cases c11 : ((rd_T41 t125 x8_1).f1) = a1)
     ·rw [if_pos c11] at H
      (have c11b0 : (((rd_T41 t125 x8_1).f1) == a1) = true := beq_iff_eq.mpr c11); (have c11b1 : (((rd_T41 t125 x8_1).f1) != a1) = false := bne_eq_false_iff_eq.mpr c11); clear c11; (simp only [Option.some.injEq, Prod.mk.injEq] at H); (obtain ⟨rfl, rfl, rfl⟩ := H); (obtain ⟨Ao12, co12, eo12⟩ := Kd.R_slice HO_7.out); subst eo12; (have p128 : 0 ≤ (x8_1 : Int) := qo (by first | (with_reducible assumption) | assumption)); (have q128 : x8_1 < (t125.length : Int) := qo (by first | (with_reducible assumption) | assumption)); (obtain ⟨ad128, e128, hx128_0, hx128_1, hx128_2⟩ := at_T41 (Kd.R_reads' HO_7.out).2.2 x8_1 p128 q128)
      cases e128
      (replace p128 := eq_true p128); (replace q128 := eq_true q128); (have hnb13 := NB124_123.out); (have hnc13 := NB123_124.out); (obtain ⟨hcz14_0, hcz14_1, hfz14_0, hfz14_1⟩ := bx2 BK124.out); (obtain ⟨hcz15_0, hcz15_1, hfz15_0, hfz15_1⟩ := bx2 BK123.out); go_wp2; (refine bodyPost_ret (results_ct rfl _ _ gb123 25 #[.int .i64 x125000_1, .int .i64 x125001_1] (0, 0) _ rfl (by (with_reducible repeat (first | refine qn ?_ _ | refine qd ?_ | refine qa ?_ _)); refine blk_put (cs := #[.int .i64 x125000_1, .int .i64 x124001_1]) ?_ 1 _ rfl; (with_reducible repeat (first | refine qn ?_ _ | refine qd ?_ | refine qa ?_ _)); refine blk_put (cs := #[.int .i64 x124000_1, .int .i64 x124001_1]) ?_ 0 _ rfl; (with_reducible repeat (first | refine qn ?_ _ | refine qd ?_ | refine qa ?_ _)); exact BK123.out) Tryd.underlying25 rfl (by kernel_rfl)) rfl ?_); (exact ⟨by first | rfl | (simp [errW_none, errW_some] <;> rfl) | (simp [*, errW_none, errW_some] <;> rfl), by repeat (first | (with_reducible first | exact HB.out | apply qA | apply qN | apply qD | refine qS ?_ GE123.out | refine qS ?_ GE124.out) | exact HB.out)⟩)
     ·rw [if_neg c11] at H
      (have c11b0 : (((rd_T41 t125 x8_1).f1) == a1) = false := beq_eq_false_iff_ne.mpr c11); (have c11b1 : (((rd_T41 t125 x8_1).f1) != a1) = true := bne_iff_ne.mpr c11); (by_cases c16 : ((rd_T41 t125 x8_1).f0) = 10)
      ·rw [if_pos c16] at H
       (have c16b0 : (((rd_T41 t125 x8_1).f0) == 10) = true := beq_iff_eq.mpr c16); (have c16b1 : (((rd_T41 t125 x8_1).f0) != 10) = false := bne_eq_false_iff_eq.mpr c16); clear c16; (have H' := qM H); clear H; (obtain ⟨Ao17, co17, eo17⟩ := Kd.R_slice HO_7.out); subst eo17; (have p128 : 0 ≤ (x8_1 : Int) := qo (by first | (with_reducible assumption) | assumption)); (have q128 : x8_1 < (t125.length : Int) := qo (by first | (with_reducible assumption) | assumption)); (obtain ⟨ad128, e128, hx128_0, hx128_1, hx128_2⟩ := at_T41 (Kd.R_reads' HO_7.out).2.2 x8_1 p128 q128)
       cases e128
       (replace p128 := eq_true p128); (replace q128 := eq_true q128); (have hnb18 := NB124_123.out); (have hnc18 := NB123_124.out); (obtain ⟨hcz19_0, hcz19_1, hfz19_0, hfz19_1⟩ := bx2 BK124.out); (have p129 : 0 ≤ (x8_1 : Int) := qo (by first | (with_reducible assumption) | assumption)); (have q129 : x8_1 < (t125.length : Int) := qo (by first | (with_reducible assumption) | assumption)); (obtain ⟨ad129, e129, hx129_0, hx129_1, hx129_2⟩ := at_T41 (Kd.R_reads' HO_7.out).2.2 x8_1 p129 q129); (obtain rfl : ad128 = ad129 := (by injection e129)); (have hn129_0 : ad128.block ≠ gb124 := Kd.own_blk (Kd.R_ne HO_7.out BK124.out (by decide))); (replace hx129_0 := (cell_far (p := ⟨gb124, 1, none⟩) (by first | (rw [add_block]; exact hn129_0) | (show (Addr.add _ _).block ≠ _; rw [add_block]; exact hn129_0) | exact hn129_0) (.int .i64 (wrap64 (x125001_1 + 1)))).trans hx129_0); (replace hx129_1 := (cell_far (p := ⟨gb124, 1, none⟩) (by first | (rw [add_block]; exact hn129_0) | (show (Addr.add _ _).block ≠ _; rw [add_block]; exact hn129_0) | exact hn129_0) (.int .i64 (wrap64 (x125001_1 + 1)))).trans hx129_1); (replace hx129_2 := (cell_far (p := ⟨gb124, 1, none⟩) (by first | (rw [add_block]; exact hn129_0) | (show (Addr.add _ _).block ≠ _; rw [add_block]; exact hn129_0) | exact hn129_0) (.int .i64 (wrap64 (x125001_1 + 1)))).trans hx129_2); clear hn129_0; (replace p129 := eq_true p129); (replace q129 := eq_true q129); go_wp2; (go_roundg k1)
       case measure => have := HK1.out; omega
       case rel => exact ⟨(wrap64 (x8_1 + 1)), (x124000_1), (x124001_1), (wrap64 (x125000_1 + 1)), (1), (by first | rfl | (simp; done) | (simp [*]; done)), H', ⟨by have := HK1.out; omega⟩, ⟨by (with_reducible repeat (first | apply Kd.R_alloc | apply Kd.R_drewN | apply Kd.R_drew)); exact Kd.R_mono (Kd.R_far (p := ⟨gb124, 1, none⟩) (Kd.R_far (p := ⟨gb124, 0, none⟩) (Kd.R_far (p := ⟨gb124, 1, none⟩) (Kd.R_types HO_7.out BK124.out (by decide)) (fun _ hk => hk.2) (.int .i64 (wrap64 (x125001_1 + 1)))) (fun _ hk => hk.2) (.int .i64 (wrap64 (x125000_1 + 1)))) (fun _ hk => hk.2) (.int .i64 1)) (fun _ hk => trivial)⟩, ⟨by (with_reducible repeat (first | refine qn ?_ _ | refine qd ?_ | refine qa ?_ _)); refine qf ?_ NB123_124.out _; (with_reducible repeat (first | refine qn ?_ _ | refine qd ?_ | refine qa ?_ _)); refine qf ?_ NB123_124.out _; (with_reducible repeat (first | refine qn ?_ _ | refine qd ?_ | refine qa ?_ _)); refine qf ?_ NB123_124.out _; (with_reducible repeat (first | refine qn ?_ _ | refine qd ?_ | refine qa ?_ _)); exact BK123.out⟩, ⟨by (with_reducible repeat (first | refine qn ?_ _ | refine qd ?_ | refine qa ?_ _)); refine blk_put (cs := #[.int .i64 (wrap64 (x125000_1 + 1)), .int .i64 (wrap64 (x125001_1 + 1))]) ?_ 1 _ rfl; (with_reducible repeat (first | refine qn ?_ _ | refine qd ?_ | refine qa ?_ _)); refine blk_put (cs := #[.int .i64 x125000_1, .int .i64 (wrap64 (x125001_1 + 1))]) ?_ 0 _ rfl; (with_reducible repeat (first | refine qn ?_ _ | refine qd ?_ | refine qa ?_ _)); refine blk_put (cs := #[.int .i64 x125000_1, .int .i64 x125001_1]) ?_ 1 _ rfl; (with_reducible repeat (first | refine qn ?_ _ | refine qd ?_ | refine qa ?_ _)); exact BK124.out⟩, ⟨by repeat (first | (with_reducible first | exact HB.out | apply qA | apply qN | apply qD | refine qS ?_ GE123.out | refine qS ?_ GE124.out) | exact HB.out)⟩⟩
      ·rw [if_neg c16] at H
       (have c16b0 : (((rd_T41 t125 x8_1).f0) == 10) = false := beq_eq_false_iff_ne.mpr c16); (have c16b1 : (((rd_T41 t125 x8_1).f0) != 10) = true := bne_iff_ne.mpr c16); (have H' := qM H); clear H; (obtain ⟨Ao20, co20, eo20⟩ := Kd.R_slice HO_7.out); subst eo20; (have p128 : 0 ≤ (x8_1 : Int) := qo (by first | (with_reducible assumption) | assumption)); (have q128 : x8_1 < (t125.length : Int) := qo (by first | (with_reducible assumption) | assumption)); (obtain ⟨ad128, e128, hx128_0, hx128_1, hx128_2⟩ := at_T41 (Kd.R_reads' HO_7.out).2.2 x8_1 p128 q128)
       cases e128
       (replace p128 := eq_true p128); (replace q128 := eq_true q128); (have hnb21 := NB124_123.out); (have hnc21 := NB123_124.out); (obtain ⟨hcz22_0, hcz22_1, hfz22_0, hfz22_1⟩ := bx2 BK124.out); (have p129 : 0 ≤ (x8_1 : Int) := qo (by first | (with_reducible assumption) | assumption)); (have q129 : x8_1 < (t125.length : Int) := qo (by first | (with_reducible assumption) | assumption)); (obtain ⟨ad129, e129, hx129_0, hx129_1, hx129_2⟩ := at_T41 (Kd.R_reads' HO_7.out).2.2 x8_1 p129 q129); (obtain rfl : ad128 = ad129 := (by injection e129)); (have hn129_0 : ad128.block ≠ gb124 := Kd.own_blk (Kd.R_ne HO_7.out BK124.out (by decide))); (replace hx129_0 := (cell_far (p := ⟨gb124, 1, none⟩) (by first | (rw [add_block]; exact hn129_0) | (show (Addr.add _ _).block ≠ _; rw [add_block]; exact hn129_0) | exact hn129_0) (.int .i64 (wrap64 (x125001_1 + 1)))).trans hx129_0); (replace hx129_1 := (cell_far (p := ⟨gb124, 1, none⟩) (by first | (rw [add_block]; exact hn129_0) | (show (Addr.add _ _).block ≠ _; rw [add_block]; exact hn129_0) | exact hn129_0) (.int .i64 (wrap64 (x125001_1 + 1)))).trans hx129_1); (replace hx129_2 := (cell_far (p := ⟨gb124, 1, none⟩) (by first | (rw [add_block]; exact hn129_0) | (show (Addr.add _ _).block ≠ _; rw [add_block]; exact hn129_0) | exact hn129_0) (.int .i64 (wrap64 (x125001_1 + 1)))).trans hx129_2); clear hn129_0; (replace p129 := eq_true p129); (replace q129 := eq_true q129); go_wp2; (go_roundg k1)
       case measure => have := HK1.out; omega
       case rel => exact ⟨(wrap64 (x8_1 + 1)), (x124000_1), (x124001_1), (x125000_1), (wrap64 (x125001_1 + 1)), (by first | rfl | (simp; done) | (simp [*]; done)), H', ⟨by have := HK1.out; omega⟩, ⟨by (with_reducible repeat (first | apply Kd.R_alloc | apply Kd.R_drewN | apply Kd.R_drew)); exact Kd.R_mono (Kd.R_far (p := ⟨gb124, 1, none⟩) (Kd.R_types HO_7.out BK124.out (by decide)) (fun _ hk => hk.2) (.int .i64 (wrap64 (x125001_1 + 1)))) (fun _ hk => trivial)⟩, ⟨by (with_reducible repeat (first | refine qn ?_ _ | refine qd ?_ | refine qa ?_ _)); refine qf ?_ NB123_124.out _; (with_reducible repeat (first | refine qn ?_ _ | refine qd ?_ | refine qa ?_ _)); exact BK123.out⟩, ⟨by (with_reducible repeat (first | refine qn ?_ _ | refine qd ?_ | refine qa ?_ _)); refine blk_put (cs := #[.int .i64 x125000_1, .int .i64 x125001_1]) ?_ 1 _ rfl; (with_reducible repeat (first | refine qn ?_ _ | refine qd ?_ | refine qa ?_ _)); exact BK124.out⟩, ⟨by repeat (first | (with_reducible first | exact HB.out | apply qA | apply qN | apply qD | refine qS ?_ GE123.out | refine qS ?_ GE124.out) | exact HB.out)⟩⟩
    ·rw [if_neg c10] at H
     exact absurd H (by simp)
   ·rw [if_neg c9] at H
    (have c9b0 : decide (x8_1 < (t125.length : Int)) = false := decide_eq_false c9); clear c9; (by_cases c23 : a1 = (a0.size : Int))
    ·rw [if_pos c23] at H
     (have c23b0 : (a1 == (a0.size : Int)) = true := beq_iff_eq.mpr c23); (have c23b1 : (a1 != (a0.size : Int)) = false := bne_eq_false_iff_eq.mpr c23); clear c23; (simp only [Option.some.injEq, Prod.mk.injEq] at H); (obtain ⟨rfl, rfl, rfl⟩ := H); (obtain ⟨Ao24, co24, eo24⟩ := Kd.R_slice HO_7.out); subst eo24; (have hnb25 := NB124_123.out); (have hnc25 := NB123_124.out); (obtain ⟨hcz26_0, hcz26_1, hfz26_0, hfz26_1⟩ := bx2 BK124.out); (obtain ⟨hcz27_0, hcz27_1, hfz27_0, hfz27_1⟩ := bx2 BK123.out); go_wp2; (refine bodyPost_ret (results_ct rfl _ _ gb123 25 #[.int .i64 x125000_1, .int .i64 x125001_1] (0, 0) _ rfl (by (with_reducible repeat (first | refine qn ?_ _ | refine qd ?_ | refine qa ?_ _)); refine blk_put (cs := #[.int .i64 x125000_1, .int .i64 x124001_1]) ?_ 1 _ rfl; (with_reducible repeat (first | refine qn ?_ _ | refine qd ?_ | refine qa ?_ _)); refine blk_put (cs := #[.int .i64 x124000_1, .int .i64 x124001_1]) ?_ 0 _ rfl; (with_reducible repeat (first | refine qn ?_ _ | refine qd ?_ | refine qa ?_ _)); exact BK123.out) Tryd.underlying25 rfl (by kernel_rfl)) rfl ?_); (exact ⟨by first | rfl | (simp [errW_none, errW_some] <;> rfl) | (simp [*, errW_none, errW_some] <;> rfl), by repeat (first | (with_reducible first | exact HB.out | apply qA | apply qN | apply qD | refine qS ?_ GE123.out | refine qS ?_ GE124.out) | exact HB.out)⟩)
    ·rw [if_neg c23] at H
     (have c23b0 : (a1 == (a0.size : Int)) = false := beq_eq_false_iff_ne.mpr c23); (have c23b1 : (a1 != (a0.size : Int)) = true := bne_iff_ne.mpr c23); (simp only [Option.some.injEq, Prod.mk.injEq] at H); (obtain ⟨rfl, rfl, rfl⟩ := H); (obtain ⟨Ao28, co28, eo28⟩ := Kd.R_slice HO_7.out); subst eo28; (have hnb29 := NB123_124.out); (have hnc29 := NB124_123.out); (obtain ⟨hcz30_0, hcz30_1, hfz30_0, hfz30_1⟩ := bx2 BK123.out); go_wp2; (refine bodyPost_ret (results_ct rfl _ _ gb123 25 #[.int .i64 0, .int .i64 0] (0, 0) _ rfl (by (with_reducible repeat (first | refine qn ?_ _ | refine qd ?_ | refine qa ?_ _)); refine blk_put (cs := #[.int .i64 0, .int .i64 x124001_1]) ?_ 1 _ rfl; (with_reducible repeat (first | refine qn ?_ _ | refine qd ?_ | refine qa ?_ _)); refine blk_put (cs := #[.int .i64 x124000_1, .int .i64 x124001_1]) ?_ 0 _ rfl; (with_reducible repeat (first | refine qn ?_ _ | refine qd ?_ | refine qa ?_ _)); exact BK123.out) Tryd.underlying25 rfl (by kernel_rfl)) rfl ?_); (exact ⟨by first | rfl | (simp [errW_none, errW_some] <;> rfl) | (simp [*, errW_none, errW_some] <;> rfl), by repeat (first | (with_reducible first | exact HB.out | apply qA | apply qN | apply qD | refine qS ?_ GE123.out | refine qS ?_ GE124.out) | exact HB.out)⟩)
theorem eqA41 (d : Nat) (w : World) (x0 y0 : Int) (x1 y1 : Int) (x2 y2 : Int) :
  (Op.equalIn (d + 2) 41 (.agg #[.int .i32 x0, .int .i64 x1, .int .i64 x2]) (.agg #[.int .i32 y0, .int .i64 y1, .int .i64 y2])).run Tryd.prog w = .ok (x0 == y0 && (x1 == y1 && (x2 == y2))) w := by
 (refine eqA_of Tryd.underlying41 (by kernel_rfl) ?_); (refine eqf_cons (by rfl) (by go_simp; rfl) (by go_simp; rfl) (by go_simp) ?_); (refine eqf_cons (by rfl) (by go_simp; rfl) (by go_simp; rfl) (by go_simp) ?_); (exact eqf_last (by rfl) (by go_simp; rfl) (by go_simp; rfl) (by go_simp))
attribute [local go_sem high] eqA41
attribute [local go_sem high] eqA25
def arboristref01_Place.l0 : Nat → ByteArray → Int → Int → Int → Option (Int × Bool)
 | 0, _, _, _, _ => none
 | k + 1, x0, x6, x175000, x175001 => if x6 ≤ (x0.size : Int) then ((arboristref01_Position.f k x0 x6).bind fun bt175 => (if bt175.2.2 = true then (if (bt175.1 == x175000 && (bt175.2.1 == x175001)) = true then (some (x6, true)) else (arboristref01_Place.l0 k x0 (wrap64 (x6 + 1)) x175000 x175001)) else (arboristref01_Place.l0 k x0 (wrap64 (x6 + 1)) x175000 x175001))) else (some (0, false))
def arboristref01_Place.f (k : Nat) (a0 : ByteArray) (a1_0 : Int) (a1_1 : Int) : Option (Int × Bool) := arboristref01_Place.l0 k a0 0 a1_0 a1_1
theorem arboristref01_Place.mono_l : ∀ k, (∀ y0 y1 y2 y3, LeO (arboristref01_Place.l0 k y0 y1 y2 y3) (arboristref01_Place.l0 (k + 1) y0 y1 y2 y3))
 | 0 => fun _ _ _ _ r h => by simp [arboristref01_Place.l0] at h
 | k + 1 => by
  have ih0 := arboristref01_Place.mono_l k
  ·intro y0 y1 y2 y3
   unfold arboristref01_Place.l0
   repeat' first
   | (with_reducible exact ih0 _ _ _ _)
   | (with_reducible exact arboristref01_Position.mono _ _ _)
   | (with_reducible exact LeO.refl _)
   | (with_reducible exact LeO.none _)
   | (with_reducible refine LeO.ite ?_ ?_)
   | (with_reducible refine LeO.bind ?_ (fun _ => ?_))
   | exact ih0 _ _ _ _
   | exact arboristref01_Position.mono _ _ _
   | exact LeO.none _
   | refine LeO.ite ?_ ?_
   | refine LeO.bind ?_ (fun _ => ?_)
theorem arboristref01_Place.mono : ∀ a0 a1 a2 k, LeO (arboristref01_Place.f k a0 a1 a2) (arboristref01_Place.f (k + 1) a0 a1 a2) := by
 (intro a0 a1 a2 k); (have ih0 := arboristref01_Place.mono_l k); (unfold arboristref01_Place.f)
 repeat' first
   | (with_reducible exact ih0 _ _ _ _)
   | (with_reducible exact arboristref01_Position.mono _ _ _)
   | (with_reducible exact LeO.refl _)
   | (with_reducible exact LeO.none _)
   | (with_reducible refine LeO.ite ?_ ?_)
   | (with_reducible refine LeO.bind ?_ (fun _ => ?_))
   | exact ih0 _ _ _ _
   | exact arboristref01_Position.mono _ _ _
   | exact LeO.none _
   | refine LeO.ite ?_ ?_
   | refine LeO.bind ?_ (fun _ => ?_)
set_option maxHeartbeats 8000000 in
set_option maxRecDepth 100000 in
theorem arboristref01_Place.calls (k : Nat) (a0 : ByteArray) (a1_0 : Int) (a1_1 : Int) (r1 : Int) (r2 : Bool) (w : World) (h : arboristref01_Place.f k a0 a1_0 a1_1 = some (r1, r2)) :
  Calls Tryd.prog 20 #[.string a0, .agg #[.int .i64 a1_0, .int .i64 a1_1]] w fun e w' => e = .returned (.tuple #[.int .i64 r1, .bool r2]) ∧ Below w.heap.size w w' := by
 (have hu25 := Tryd.underlying25); (have HB := qM (Below.refl w.heap.size w)); (have H : (arboristref01_Place.l0 k a0 0 a1_0 a1_1) = some (r1, r2) := h); clear h; (have H' := qM H); clear H; (go_enter Tryd.func20, Tryd.ntmps20)
 go_wp2_with (first | ((with_reducible refine gate_dst (N := 3) rfl ?_); refine box_event ?hg (N := 3) ?hd (cs := #[.int .i64 a1_0, .int .i64 a1_1]) (t := 25) ?hr ?_; (case hd => rfl); (case hg => rfl); (case hr => first | (go_simp; done) | (go_simp; rfl)); intro gb174 hg w3 hbox hb; have n0_ := qM (qP (by repeat (first | (with_reducible first | exact HB.out | apply qA | apply qN | apply qD) | exact HB.out)) hb); have n1_ := qM (hbox); have n2_ := qM ((by rw [hg]; exact (qZ (by repeat (first | (with_reducible first | exact HB.out | apply qA | apply qN | apply qD) | exact HB.out))) : w.heap.size ≤ gb174)); have n3_ := qM ((by rw [hg]; exact (qZ (by repeat (first | (with_reducible first | exact HB.out | apply qA | apply qN | apply qD) | exact HB.out))) : w.heap.size ≤ gb174)); clear HB; have HB := n0_; have BK174 := n1_; have GW174 := n2_; have GE174 := n3_; clear n0_ n1_ n2_ n3_; clear hb hbox hg))
 go_loopg [6] k (fun kq v6 w' => ∃ (x6_1 : Int), v6 = .int .i64 x6_1 ∧ Aside0 (arboristref01_Place.l0 kq a0 x6_1 a1_0 a1_1 = some (r1, r2)) ∧ Aside0 (kq ≤ k) ∧ Aside0 (w'.heap[gb174]? = some (.cells #[.int .i64 a1_0, .int .i64 a1_1] 25 (0, 0))) ∧ Aside0 (Below w.heap.size w w'))
 case atStart => exact ⟨(0), (by first | rfl | (simp; done) | (simp [*]; done)), H', ⟨Nat.le_refl _⟩, ⟨by (with_reducible repeat (first | refine qn ?_ _ | refine qd ?_ | refine qa ?_ _)); exact BK174.out⟩, ⟨by repeat (first | (with_reducible first | exact HB.out | apply qA | apply qN | apply qD | refine qS ?_ GE174.out) | exact HB.out)⟩⟩
 case round =>
  (clear H'); (try clear c2); (try clear p2); (obtain ⟨x6_1, rfl, HA, HK1, BK174, HB⟩ := hrel)
  cases gk with
  | zero => exact absurd HA.out (by simp [arboristref01_Place.l0])
  | succ k1 =>
   (have H := HA.out); clear HA; (simp only [arboristref01_Place.l0] at H); (by_cases c4 : x6_1 ≤ (a0.size : Int))
   ·rw [if_pos c4] at H
    (have c4b0 : decide (x6_1 ≤ (a0.size : Int)) = true := decide_eq_true c4); clear c4; (replace H := Option.bind_eq_some_iff.mp H); (obtain ⟨⟨t175, t176, t177⟩, A50, H⟩ := H); (replace H : (if t177 = true then (if (t175 == a1_0 && (t176 == a1_1)) = true then (some (x6_1, true)) else (arboristref01_Place.l0 k1 a0 (wrap64 (x6_1 + 1)) a1_0 a1_1)) else (arboristref01_Place.l0 k1 a0 (wrap64 (x6_1 + 1)) a1_0 a1_1)) = some (r1, r2) := H); (have A5 := qM A50); clear A50; (by_cases c6 : t177 = true)
    ·subst c6
     (have H1 : (if (t175 == a1_0 && (t176 == a1_1)) = true then (some (x6_1, true)) else (arboristref01_Place.l0 k1 a0 (wrap64 (x6_1 + 1)) a1_0 a1_1)) = some (r1, r2) := by rw [if_pos rfl] at H; exact H); clear H; (have H := H1); clear H1; (by_cases c7 : (t175 == a1_0 && (t176 == a1_1)) = true)
     ·rw [if_pos c7] at H
      (have c7b0 : (t175 == a1_0 && (t176 == a1_1)) = true := c7); ((try (have c7b1 : decide (t175 = a1_0 && (t176 == a1_1)) = true := by simpa using c7))); ((try (have c7b2 : (t175 == a1_0 && (t176 == a1_1)) = true := by simpa using c7))); clear c7; (simp only [Option.some.injEq, Prod.mk.injEq] at H); (obtain ⟨rfl, rfl⟩ := H)
      go_wp2_with (first | ((with_reducible refine gate_callee (f := 12) rfl ?_); refine goesL_ (some 18) rfl rfl Tryd.func12 (by kernel_rfl) rfl #[.string a0, .int .i64 x6_1] rfl (by (try simp only [List.map_toArray, List.map_cons, List.map_nil]); first | done | rfl | (simp only [List.length_drop, List.length_take]; rfl)) ?_; (with_reducible refine (arboristref01_Position.calls k1 a0 x6_1 t175 t176 true _ A5.out).mono ?_); rintro e w8 ⟨rfl, hb⟩; refine ⟨_, rfl, ?_⟩; have n0_ := qM (qb (g := gb174) (o := .cells #[.int .i64 a1_0, .int .i64 a1_1] 25 (0, 0)) (by (with_reducible repeat (first | refine qn ?_ _ | refine qd ?_ | refine qa ?_ _)); exact BK174.out) hb); have n1_ := qM (qP (by repeat (first | (with_reducible first | exact HB.out | apply qA | apply qN | apply qD | refine qS ?_ GE174.out) | exact HB.out)) hb); clear BK174; clear HB; have BK174 := n0_; have HB := n1_; clear n0_ n1_; (try clear hb); (try clear hb2); (try clear hk); (try clear hi)) | ((with_reducible refine gate_dst (N := 7) rfl ?_); refine box_event ?hg (N := 7) ?hd (cs := #[.int .i64 0, .int .i64 0]) (t := 25) ?hr ?_; (case hd => rfl); (case hg => rfl); (case hr => first | (go_simp; done) | (go_simp; rfl)); intro gb178 hg w9 hbox hb; have n0_ := qM (qb (g := gb174) (o := .cells #[.int .i64 a1_0, .int .i64 a1_1] 25 (0, 0)) (by (with_reducible repeat (first | refine qn ?_ _ | refine qd ?_ | refine qa ?_ _)); exact BK174.out) hb); have n1_ := qM (qP (by repeat (first | (with_reducible first | exact HB.out | apply qA | apply qN | apply qD | refine qS ?_ GE174.out) | exact HB.out)) hb); have n2_ := qM (hbox); have n3_ := qM ((by rw [hg]; exact (qZ (by repeat (first | (with_reducible first | exact HB.out | apply qA | apply qN | apply qD | refine qS ?_ GE174.out) | exact HB.out))) : w.heap.size ≤ gb178)); have n4_ := qM ((by rw [hg]; exact (qZ (by repeat (first | (with_reducible first | exact HB.out | apply qA | apply qN | apply qD | refine qS ?_ GE174.out) | exact HB.out))) : w.heap.size ≤ gb178)); have n5_ := qM ((by rw [hg]; exact Nat.ne_of_lt (ql (g := gb174) (o := .cells #[.int .i64 a1_0, .int .i64 a1_1] 25 (0, 0)) (by (with_reducible repeat (first | refine qn ?_ _ | refine qd ?_ | refine qa ?_ _)); exact BK174.out)) : gb174 ≠ gb178)); have n6_ := qM ((by rw [hg]; exact Nat.ne_of_gt (ql (g := gb174) (o := .cells #[.int .i64 a1_0, .int .i64 a1_1] 25 (0, 0)) (by (with_reducible repeat (first | refine qn ?_ _ | refine qd ?_ | refine qa ?_ _)); exact BK174.out)) : gb178 ≠ gb174)); clear BK174; clear HB; have BK174 := n0_; have HB := n1_; have BK178 := n2_; have GW178 := n3_; have GE178 := n4_; have NB174_178 := n5_; have NB178_174 := n6_; clear n0_ n1_ n2_ n3_ n4_ n5_ n6_; clear hb hbox hg; have hnb10 := NB178_174.out; have hnc10 := NB174_178.out; obtain ⟨hcz11_0, hcz11_1, hfz11_0, hfz11_1⟩ := bx2 BK178.out; obtain ⟨hcz12_0, hcz12_1, hfz12_0, hfz12_1⟩ := bx2 BK174.out))
      (go_ret2); (exact ⟨by first | rfl | (simp [errW_none, errW_some] <;> rfl) | (simp [*, errW_none, errW_some] <;> rfl), by repeat (first | (with_reducible first | exact HB.out | apply qA | apply qN | apply qD | refine qS ?_ GE174.out | refine qS ?_ GE178.out) | exact HB.out)⟩)
     ·rw [if_neg c7] at H
      (have c7b0 : (t175 == a1_0 && (t176 == a1_1)) = false := by simpa using c7); ((try (have c7b1 : decide (t175 = a1_0 && (t176 == a1_1)) = false := by simpa using c7))); ((try (have c7b2 : (t175 == a1_0 && (t176 == a1_1)) = false := by simpa using c7))); ((try (have c7b3 : ¬ (t175 = a1_0 && (t176 == a1_1)) := by simpa using c7))); clear c7; (have H' := qM H); clear H
      go_wp2_with (first | ((with_reducible refine gate_callee (f := 12) rfl ?_); refine goesL_ (some 18) rfl rfl Tryd.func12 (by kernel_rfl) rfl #[.string a0, .int .i64 x6_1] rfl (by (try simp only [List.map_toArray, List.map_cons, List.map_nil]); first | done | rfl | (simp only [List.length_drop, List.length_take]; rfl)) ?_; (with_reducible refine (arboristref01_Position.calls k1 a0 x6_1 t175 t176 true _ A5.out).mono ?_); rintro e w13 ⟨rfl, hb⟩; refine ⟨_, rfl, ?_⟩; have n0_ := qM (qb (g := gb174) (o := .cells #[.int .i64 a1_0, .int .i64 a1_1] 25 (0, 0)) (by (with_reducible repeat (first | refine qn ?_ _ | refine qd ?_ | refine qa ?_ _)); exact BK174.out) hb); have n1_ := qM (qP (by repeat (first | (with_reducible first | exact HB.out | apply qA | apply qN | apply qD | refine qS ?_ GE174.out) | exact HB.out)) hb); clear BK174; clear HB; have BK174 := n0_; have HB := n1_; clear n0_ n1_; (try clear hb); (try clear hb2); (try clear hk); (try clear hi)) | ((with_reducible refine gate_dst (N := 7) rfl ?_); refine box_event ?hg (N := 7) ?hd (cs := #[.int .i64 0, .int .i64 0]) (t := 25) ?hr ?_; (case hd => rfl); (case hg => rfl); (case hr => first | (go_simp; done) | (go_simp; rfl)); intro gb178 hg w14 hbox hb; have n0_ := qM (qb (g := gb174) (o := .cells #[.int .i64 a1_0, .int .i64 a1_1] 25 (0, 0)) (by (with_reducible repeat (first | refine qn ?_ _ | refine qd ?_ | refine qa ?_ _)); exact BK174.out) hb); have n1_ := qM (qP (by repeat (first | (with_reducible first | exact HB.out | apply qA | apply qN | apply qD | refine qS ?_ GE174.out) | exact HB.out)) hb); have n2_ := qM (hbox); have n3_ := qM ((by rw [hg]; exact (qZ (by repeat (first | (with_reducible first | exact HB.out | apply qA | apply qN | apply qD | refine qS ?_ GE174.out) | exact HB.out))) : w.heap.size ≤ gb178)); have n4_ := qM ((by rw [hg]; exact (qZ (by repeat (first | (with_reducible first | exact HB.out | apply qA | apply qN | apply qD | refine qS ?_ GE174.out) | exact HB.out))) : w.heap.size ≤ gb178)); have n5_ := qM ((by rw [hg]; exact Nat.ne_of_lt (ql (g := gb174) (o := .cells #[.int .i64 a1_0, .int .i64 a1_1] 25 (0, 0)) (by (with_reducible repeat (first | refine qn ?_ _ | refine qd ?_ | refine qa ?_ _)); exact BK174.out)) : gb174 ≠ gb178)); have n6_ := qM ((by rw [hg]; exact Nat.ne_of_gt (ql (g := gb174) (o := .cells #[.int .i64 a1_0, .int .i64 a1_1] 25 (0, 0)) (by (with_reducible repeat (first | refine qn ?_ _ | refine qd ?_ | refine qa ?_ _)); exact BK174.out)) : gb178 ≠ gb174)); clear BK174; clear HB; have BK174 := n0_; have HB := n1_; have BK178 := n2_; have GW178 := n3_; have GE178 := n4_; have NB174_178 := n5_; have NB178_174 := n6_; clear n0_ n1_ n2_ n3_ n4_ n5_ n6_; clear hb hbox hg; have hnb15 := NB178_174.out; have hnc15 := NB174_178.out; obtain ⟨hcz16_0, hcz16_1, hfz16_0, hfz16_1⟩ := bx2 BK178.out; obtain ⟨hcz17_0, hcz17_1, hfz17_0, hfz17_1⟩ := bx2 BK174.out))
      go_roundg k1
      case measure => have := HK1.out; omega
      case rel => exact ⟨(wrap64 (x6_1 + 1)), (by first | rfl | (simp; done) | (simp [*]; done)), H', ⟨by have := HK1.out; omega⟩, ⟨by (with_reducible repeat (first | refine qn ?_ _ | refine qd ?_ | refine qa ?_ _)); refine qf ?_ NB174_178.out _; (with_reducible repeat (first | refine qn ?_ _ | refine qd ?_ | refine qa ?_ _)); refine qf ?_ NB174_178.out _; (with_reducible repeat (first | refine qn ?_ _ | refine qd ?_ | refine qa ?_ _)); exact BK174.out⟩, ⟨by repeat (first | (with_reducible first | exact HB.out | apply qA | apply qN | apply qD | refine qS ?_ GE174.out | refine qS ?_ GE178.out) | exact HB.out)⟩⟩
    ·replace c6 := Bool.eq_false_iff.mpr c6
     subst c6; (have H1 : (arboristref01_Place.l0 k1 a0 (wrap64 (x6_1 + 1)) a1_0 a1_1) = some (r1, r2) := by rw [if_neg (show ¬ (false = true) by decide)] at H; exact H); clear H; (have H := H1); clear H1; (have H' := qM H); clear H
     go_wp2_with (first | ((with_reducible refine gate_callee (f := 12) rfl ?_); refine goesL_ (some 18) rfl rfl Tryd.func12 (by kernel_rfl) rfl #[.string a0, .int .i64 x6_1] rfl (by (try simp only [List.map_toArray, List.map_cons, List.map_nil]); first | done | rfl | (simp only [List.length_drop, List.length_take]; rfl)) ?_; (with_reducible refine (arboristref01_Position.calls k1 a0 x6_1 t175 t176 false _ A5.out).mono ?_); rintro e w18 ⟨rfl, hb⟩; refine ⟨_, rfl, ?_⟩; have n0_ := qM (qb (g := gb174) (o := .cells #[.int .i64 a1_0, .int .i64 a1_1] 25 (0, 0)) (by (with_reducible repeat (first | refine qn ?_ _ | refine qd ?_ | refine qa ?_ _)); exact BK174.out) hb); have n1_ := qM (qP (by repeat (first | (with_reducible first | exact HB.out | apply qA | apply qN | apply qD | refine qS ?_ GE174.out) | exact HB.out)) hb); clear BK174; clear HB; have BK174 := n0_; have HB := n1_; clear n0_ n1_; (try clear hb); (try clear hb2); (try clear hk); (try clear hi)) | ((with_reducible refine gate_dst (N := 7) rfl ?_); refine box_event ?hg (N := 7) ?hd (cs := #[.int .i64 0, .int .i64 0]) (t := 25) ?hr ?_; (case hd => rfl); (case hg => rfl); (case hr => first | (go_simp; done) | (go_simp; rfl)); intro gb178 hg w19 hbox hb; have n0_ := qM (qb (g := gb174) (o := .cells #[.int .i64 a1_0, .int .i64 a1_1] 25 (0, 0)) (by (with_reducible repeat (first | refine qn ?_ _ | refine qd ?_ | refine qa ?_ _)); exact BK174.out) hb); have n1_ := qM (qP (by repeat (first | (with_reducible first | exact HB.out | apply qA | apply qN | apply qD | refine qS ?_ GE174.out) | exact HB.out)) hb); have n2_ := qM (hbox); have n3_ := qM ((by rw [hg]; exact (qZ (by repeat (first | (with_reducible first | exact HB.out | apply qA | apply qN | apply qD | refine qS ?_ GE174.out) | exact HB.out))) : w.heap.size ≤ gb178)); have n4_ := qM ((by rw [hg]; exact (qZ (by repeat (first | (with_reducible first | exact HB.out | apply qA | apply qN | apply qD | refine qS ?_ GE174.out) | exact HB.out))) : w.heap.size ≤ gb178)); have n5_ := qM ((by rw [hg]; exact Nat.ne_of_lt (ql (g := gb174) (o := .cells #[.int .i64 a1_0, .int .i64 a1_1] 25 (0, 0)) (by (with_reducible repeat (first | refine qn ?_ _ | refine qd ?_ | refine qa ?_ _)); exact BK174.out)) : gb174 ≠ gb178)); have n6_ := qM ((by rw [hg]; exact Nat.ne_of_gt (ql (g := gb174) (o := .cells #[.int .i64 a1_0, .int .i64 a1_1] 25 (0, 0)) (by (with_reducible repeat (first | refine qn ?_ _ | refine qd ?_ | refine qa ?_ _)); exact BK174.out)) : gb178 ≠ gb174)); clear BK174; clear HB; have BK174 := n0_; have HB := n1_; have BK178 := n2_; have GW178 := n3_; have GE178 := n4_; have NB174_178 := n5_; have NB178_174 := n6_; clear n0_ n1_ n2_ n3_ n4_ n5_ n6_; clear hb hbox hg; have hnb20 := NB178_174.out; have hnc20 := NB174_178.out; obtain ⟨hcz21_0, hcz21_1, hfz21_0, hfz21_1⟩ := bx2 BK178.out))
     go_roundg k1
     case measure => have := HK1.out; omega
     case rel => exact ⟨(wrap64 (x6_1 + 1)), (by first | rfl | (simp; done) | (simp [*]; done)), H', ⟨by have := HK1.out; omega⟩, ⟨by (with_reducible repeat (first | refine qn ?_ _ | refine qd ?_ | refine qa ?_ _)); refine qf ?_ NB174_178.out _; (with_reducible repeat (first | refine qn ?_ _ | refine qd ?_ | refine qa ?_ _)); refine qf ?_ NB174_178.out _; (with_reducible repeat (first | refine qn ?_ _ | refine qd ?_ | refine qa ?_ _)); exact BK174.out⟩, ⟨by repeat (first | (with_reducible first | exact HB.out | apply qA | apply qN | apply qD | refine qS ?_ GE174.out | refine qS ?_ GE178.out) | exact HB.out)⟩⟩
   ·rw [if_neg c4] at H
    (have c4b0 : decide (x6_1 ≤ (a0.size : Int)) = false := decide_eq_false c4); clear c4; (simp only [Option.some.injEq, Prod.mk.injEq] at H); (obtain ⟨rfl, rfl⟩ := H); go_wp2; (go_ret2); (exact ⟨by first | rfl | (simp [errW_none, errW_some] <;> rfl) | (simp [*, errW_none, errW_some] <;> rfl), by repeat (first | (with_reducible first | exact HB.out | apply qA | apply qN | apply qD | refine qS ?_ GE174.out) | exact HB.out)⟩)
end Go.Proofs.YtlpkkkkgbnoiiaaDoor.H
end
