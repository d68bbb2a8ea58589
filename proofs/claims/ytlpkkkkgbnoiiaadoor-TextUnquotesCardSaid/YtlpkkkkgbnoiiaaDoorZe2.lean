/- A part (2 of 3) of this proof: text.Unquote and the reference agree on every text, and so do text.IsName and its reference: the law TextUnquotes returns true for every text (where the argument can be read and the listed package variables hold what the program lays) -/
import Derived.Test.YtlpkkkkgbnoiiaaDoorRows
import Derived.WalkKit
import Derived.ProofKit
import Derived.OpenShut
import Derived.ShutString
import Derived.ChangeOld
import Derived.Below
import Derived.SizedLaws
import Derived.Maps.Own
import Derived.Maps.OwnOps
import Derived.Maps.OwnSet
import Derived.Handy
import Derived.Outline
import Derived.Lib.OthersKept
import Derived.Lib.RuneBytes
import Derived.Lib.RuneLoops
import Derived.Lib.RuneCountTail
import Derived.Lib.TrimU
import Derived.Lib.QuoteLoop
import Derived.Laws.RangeAny
import Derived.Lib.ConvBytes
import Derived.Lib.Bytealg
import Derived.Test.YtlpkkkkgbnoiiaaDoorZe1
section
namespace Go.Proofs.YtlpkkkkgbnoiiaaDoor.H
open Go.RowKit Go.ChangeShapes Go.WideShapes Go.ChangeAt Go.Proofs.YtlpkkkkgbnoiiaaDoorW.PrintWords Go.Proofs.YtlpkkkkgbnoiiaaDoorW.PrintLast Go.Proofs.YtlpkkkkgbnoiiaaDoorW.PrintMore
set_option linter.unusedVariables false
set_option linter.unusedSimpArgs false
structure Opens {α : Type} (P : Program) (t : TypeId) (K : Kd α) (ok : α → Prop) (sz : α → Nat) : Prop where
  cells : P.cellsOf t = K.sz
  op : ∀ {H : Type} {enc : TypeId × Value → H} {W : World} {base : Nat} {sp : Nat → Bool} {held : Bool} {n : Nat} {cs : List Value} {x : DataW H × List MemPlace},
    DataW.trod enc P W base sp held n t cs = some x → (∀ u ∈ DataW.weights P t x.1, u ≤ reachBytes) → ∃ v, K.K W v cs ∧ ok v ∧ sz v ≤ Rows.uptoBulk x.1
section
variable {P : Program} {α β : Type} {t e : TypeId}
theorem Opens.imp {K : Kd α} {ok ok' : α → Prop} {sz sz' : α → Nat} (h : Opens P t K ok sz) (hi : ∀ x, ok x → ok' x) (hs : ∀ x, sz' x ≤ sz x) : Opens P t K ok' sz' :=
  ⟨h.cells, fun h0 hw => by obtain ⟨v, hk, ho, hz⟩ := h.op h0 hw; exact ⟨v, hk, hi v ho, Nat.le_trans (hs v) hz⟩⟩
theorem Opens.of {H : Type} {enc : TypeId × Value → H} {W : World} {base : Nat} {sp : Nat → Bool} {held : Bool} {K : Kd α} {ok : α → Prop} {sz : α → Nat} (h : Opens P t K ok sz) {v : Value} {d : DataW H} {ps : List MemPlace} {ts : List TypeId} {ds : List (DataW H)} {j : Nat}
    (hsz : (DataW.weightsEach P ts ds).all (· ≤ reachBytes) = true) (ht : ts[j]? = some t) (hd : ds[j]? = some d) (h0 : DataW.Trod enc P W base sp held t v d ps) : ∃ x, K.K W x v.cells.toList ∧ ok x ∧ sz x ≤ Rows.uptoBulk d := by
  obtain ⟨fuel, hf⟩ := h0
  exact h.op hf (fun u hu => by simpa using List.all_eq_true.1 hsz u (DataW.weights_mem_each ht hd u hu))
end
end Go.Proofs.YtlpkkkkgbnoiiaaDoor.H
end
section
namespace Go.Proofs.YtlpkkkkgbnoiiaaDoor.H
open Go.RowKit Go.ChangeShapes Go.WideShapes Go.ChangeAt Go.Proofs.YtlpkkkkgbnoiiaaDoorW.PrintWords Go.Proofs.YtlpkkkkgbnoiiaaDoorW.PrintLast Go.Proofs.YtlpkkkkgbnoiiaaDoorW.PrintMore
set_option linter.unusedVariables false
end Go.Proofs.YtlpkkkkgbnoiiaaDoor.H
end
section
namespace Go.Proofs.YtlpkkkkgbnoiiaaDoor.H
open Go.RowKit Go.Proofs.YtlpkkkkgbnoiiaaDoorW.PrintWords Go.Proofs.YtlpkkkkgbnoiiaaDoorW.PrintLast Go.Proofs.YtlpkkkkgbnoiiaaDoorW.PrintMore
open Go.WideMaps Go.Maps
set_option linter.unusedVariables false
set_option linter.unusedSimpArgs false
theorem ba_ext {a b : ByteArray} (h : a.data.toList = b.data.toList) : a = b := by
  cases a; cases b; simp_all
instance decBA : DecidableEq ByteArray := fun a b => decidable_of_iff (a.data.toList = b.data.toList) ⟨ba_ext, fun h => by rw [h]⟩
instance decMemBA (s : ByteArray) (l : List ByteArray) : Decidable (s ∈ l) := decidable_of_iff (l.any (fun y => decide (y = s)) = true) (by simp)
end Go.Proofs.YtlpkkkkgbnoiiaaDoor.H
end
section
namespace Go.Proofs.YtlpkkkkgbnoiiaaDoor.H
open Go.RowKit Go.Proofs.YtlpkkkkgbnoiiaaDoorW.PrintWords Go.Proofs.YtlpkkkkgbnoiiaaDoorW.PrintLast Go.Proofs.YtlpkkkkgbnoiiaaDoorW.PrintMore
attribute [local go_sem] max2_int min2_int max_two min_two max_three min_three max_four min_four
set_option linter.unusedVariables false
set_option linter.unusedSimpArgs false
theorem eqA25 (d : Nat) (w : World) (x0 y0 : Int) (x1 y1 : Int) :
  (Op.equalIn (d + 2) 25 (.agg #[.int .i64 x0, .int .i64 x1]) (.agg #[.int .i64 y0, .int .i64 y1])).run Tryd.prog w = .ok (x0 == y0 && (x1 == y1)) w := by
 (refine eqA_of Tryd.underlying25 (by kernel_rfl) ?_); (refine eqf_cons (by rfl) (by go_simp; rfl) (by go_simp; rfl) (by go_simp) ?_); (exact eqf_last (by rfl) (by go_simp; rfl) (by go_simp; rfl) (by go_simp))
end Go.Proofs.YtlpkkkkgbnoiiaaDoor.H
end
section
namespace Go.Proofs.YtlpkkkkgbnoiiaaDoor.H
open Go.RowKit
set_option linter.unusedVariables false
set_option linter.unusedSimpArgs false
theorem rune_w_pos (s : ByteArray) (pos : Nat) : 1 ≤ (Utf8.decode s pos).2 := Lib.width_pos s pos
theorem rune_w_le (s : ByteArray) (pos : Nat) (h : pos < s.size) : pos + (Utf8.decode s pos).2 ≤ s.size := by
  have h1 := Lib.tail_decode s pos 0
  have h2 := Lib.width_le (s.extract pos s.size) (by simp; omega)
  rw [Lib.tail_decode] at h2
  simp at h2
  omega
def seamsFrom (s : ByteArray) : Nat → Nat → Int → Int → List (Int × Int × Int)
  | 0, _, l, c => [((s.size : Int), l, c)]
  | f + 1, pos, l, c => if pos < s.size then ((pos : Int), l, c) :: (if (Utf8.decode s pos).1 = 10 then seamsFrom s f (pos + (Utf8.decode s pos).2) (l + 1) 1 else seamsFrom s f (pos + (Utf8.decode s pos).2) l (c + 1)) else [((s.size : Int), l, c)]
def seamsL (s : ByteArray) : List (Int × Int × Int) := seamsFrom s s.size 0 1 1
theorem seamsFrom_end (s : ByteArray) (f pos : Nat) (l c : Int) (h : ¬ pos < s.size) : seamsFrom s f pos l c = [((s.size : Int), l, c)] := by
  cases f <;> simp [seamsFrom, h]
def runesFrom (s : ByteArray) : Nat → Nat → List S41
  | 0, _ => []
  | f + 1, pos => if pos < s.size then ⟨((Utf8.decode s pos).1 : Int), (pos : Int), ((Utf8.decode s pos).2 : Int)⟩ :: runesFrom s f (pos + (Utf8.decode s pos).2) else []
def runesL (s : ByteArray) : List S41 := runesFrom s s.size 0
theorem runesFrom_end (s : ByteArray) (f pos : Nat) (h : ¬ pos < s.size) : runesFrom s f pos = [] := by
  cases f <;> simp [runesFrom, h]
end Go.Proofs.YtlpkkkkgbnoiiaaDoor.H
end
section
namespace Go.Proofs.YtlpkkkkgbnoiiaaDoor.H
open Go.RowKit Go.Proofs.YtlpkkkkgbnoiiaaDoorW.PrintWords Go.Proofs.YtlpkkkkgbnoiiaaDoorW.PrintLast Go.Proofs.YtlpkkkkgbnoiiaaDoorW.PrintMore
attribute [local go_sem] max2_int min2_int max_two min_two max_three min_three max_four min_four
set_option linter.unusedVariables false
set_option linter.unusedSimpArgs false
def utf8_ValidRune.j0 : Nat → Int → Bool → Option (Bool)
 | 0, _, _ => none
 | k + 1, x0, x3 => if x3 = true then (some true) else (if 57343 < x0 then (if x0 ≤ 1114111 then (some true) else (some false)) else (some false))
def utf8_ValidRune.f (k : Nat) (a0 : Int) : Option (Bool) := if 0 ≤ a0 then (utf8_ValidRune.j0 k a0 (decide (a0 < 55296))) else (utf8_ValidRune.j0 k a0 false)
theorem utf8_ValidRune.mono_l : ∀ k, (∀ y0 y1, LeO (utf8_ValidRune.j0 k y0 y1) (utf8_ValidRune.j0 (k + 1) y0 y1))
 | 0 => fun _ _ r h => by simp [utf8_ValidRune.j0] at h
 | k + 1 => by
  have ih0 := utf8_ValidRune.mono_l k
  ·intro y0 y1
   unfold utf8_ValidRune.j0
   repeat' first
   | (with_reducible exact ih0 _ _)
   | (with_reducible exact LeO.refl _)
   | (with_reducible exact LeO.none _)
   | (with_reducible refine LeO.ite ?_ ?_)
   | (with_reducible refine LeO.bind ?_ (fun _ => ?_))
   | exact ih0 _ _
   | exact LeO.none _
   | refine LeO.ite ?_ ?_
   | refine LeO.bind ?_ (fun _ => ?_)
theorem utf8_ValidRune.mono : ∀ a0 k, LeO (utf8_ValidRune.f k a0) (utf8_ValidRune.f (k + 1) a0) := by
 (intro a0 k); (have ih0 := utf8_ValidRune.mono_l k); (unfold utf8_ValidRune.f)
 repeat' first
   | (with_reducible exact ih0 _ _)
   | (with_reducible exact LeO.refl _)
   | (with_reducible exact LeO.none _)
   | (with_reducible refine LeO.ite ?_ ?_)
   | (with_reducible refine LeO.bind ?_ (fun _ => ?_))
   | exact ih0 _ _
   | exact LeO.none _
   | refine LeO.ite ?_ ?_
   | refine LeO.bind ?_ (fun _ => ?_)
set_option maxHeartbeats 8000000 in
set_option maxRecDepth 100000 in
theorem utf8_ValidRune.calls (k : Nat) (a0 : Int) (r : Bool) (w : World) (h : utf8_ValidRune.f k a0 = some r) :
  Calls Tryd.prog 52 #[.int .i32 a0] w fun e w' => e = .returned (.bool r) ∧ Drawn0 w w' := by
 (have H : (if 0 ≤ a0 then (utf8_ValidRune.j0 k a0 (decide (a0 < 55296))) else (utf8_ValidRune.j0 k a0 false)) = some r := h); clear h; (have HC2 := qM H); clear H; (go_enter Tryd.func52, Tryd.ntmps52); (go_upto_region 1 with (fail)); (go_cut [3] (fun v3 wc => ∃ (kq : Nat) (x3_1 : Bool), v3 = .bool x3_1 ∧ Aside0 (utf8_ValidRune.j0 kq a0 x3_1 = some r) ∧ Aside0 (kq ≤ k) ∧ Drawn0 w wc))
 case first =>
  (have H := HC2.out); clear HC2; (by_cases c3 : 0 ≤ a0)
  ·rw [if_pos c3] at H
   (have c3b0 : decide (0 ≤ a0) = true := decide_eq_true c3); clear c3; ((first | rw [c3b0] | (simp only [i64_w, i32_w]; rw [c3b0]) | skip)); (have H' := qM H); clear H; go_wp2; go_meet
   case rel => exact ⟨_, (decide (a0 < 55296)), (by first | rfl | (simp; done) | (simp [*]; done)), H', ⟨by first | omega | exact Nat.le_refl _⟩, by repeat (first | exact Drawn0.refl _ | apply Drawn0.step)⟩
  ·rw [if_neg c3] at H
   (have c3b0 : decide (0 ≤ a0) = false := decide_eq_false c3); clear c3; ((first | rw [c3b0] | (simp only [i64_w, i32_w]; rw [c3b0]) | skip)); (have H' := qM H); clear H; go_wp2; go_meet
   case rel => exact ⟨_, (false), (by first | rfl | (simp; done) | (simp [*]; done)), H', ⟨by first | omega | exact Nat.le_refl _⟩, by repeat (first | exact Drawn0.refl _ | apply Drawn0.step)⟩
 case rest =>
  clear HC2; (try clear p2); (try clear c3); (try clear c3b0); (obtain ⟨kq, x3_1, rfl, HA, HJ1, ⟨mc1, rfl⟩⟩ := hcut)
  cases kq with
  | zero => exact absurd HA.out (by simp [utf8_ValidRune.j0])
  | succ kj1 =>
   (have H := HA.out); clear HA; (simp only [utf8_ValidRune.j0] at H); (by_cases c4 : x3_1 = true)
   ·subst c4
    (have H1 : (some true) = some r := by rw [if_pos rfl] at H; exact H); clear H; (have H := H1); clear H1; (obtain rfl := Option.some.inj H); go_wp2; (go_ret); (exact ⟨by first | rfl | (simp; done) | (simp [*]; done), by repeat (first | exact Drawn0.refl _ | apply Drawn0.step)⟩)
   ·replace c4 := Bool.eq_false_iff.mpr c4
    subst c4; (have H1 : (if 57343 < a0 then (if a0 ≤ 1114111 then (some true) else (some false)) else (some false)) = some r := by rw [if_neg (show ¬ (false = true) by decide)] at H; exact H); clear H; (have H := H1); clear H1; (by_cases c5 : 57343 < a0)
    ·rw [if_pos c5] at H
     (have c5b0 : decide (57343 < a0) = true := decide_eq_true c5); clear c5; (by_cases c6 : a0 ≤ 1114111)
     ·rw [if_pos c6] at H
      (have c6b0 : decide (a0 ≤ 1114111) = true := decide_eq_true c6); clear c6; (obtain rfl := Option.some.inj H); go_wp2; (go_ret); (exact ⟨by first | rfl | (simp; done) | (simp [*]; done), by repeat (first | exact Drawn0.refl _ | apply Drawn0.step)⟩)
     ·rw [if_neg c6] at H
      (have c6b0 : decide (a0 ≤ 1114111) = false := decide_eq_false c6); clear c6; (obtain rfl := Option.some.inj H); go_wp2; (go_ret); (exact ⟨by first | rfl | (simp; done) | (simp [*]; done), by repeat (first | exact Drawn0.refl _ | apply Drawn0.step)⟩)
    ·rw [if_neg c5] at H
     (have c5b0 : decide (57343 < a0) = false := decide_eq_false c5); clear c5; (obtain rfl := Option.some.inj H); go_wp2; (go_ret); (exact ⟨by first | rfl | (simp; done) | (simp [*]; done), by repeat (first | exact Drawn0.refl _ | apply Drawn0.step)⟩)
def arboristlaw01_few.f (a0 : ByteArray) : Option (Bool) := some (decide ((a0.size : Int) ≤ 300))
set_option maxHeartbeats 8000000 in
set_option maxRecDepth 100000 in
theorem arboristlaw01_few.calls (a0 : ByteArray) (r : Bool) (w : World) (h : arboristlaw01_few.f a0 = some r) :
  Calls Tryd.prog 9 #[.string a0] w fun e w' => e = .returned (.bool r) ∧ Drawn0 w w' := by
 (have H : (some (decide ((a0.size : Int) ≤ 300))) = some r := h); clear h; (obtain rfl := Option.some.inj H); (go_enter Tryd.func9, Tryd.ntmps9); go_wp2; (go_ret); (exact ⟨by first | rfl | (simp; done) | (simp [*]; done), by repeat (first | exact Drawn0.refl _ | apply Drawn0.step)⟩)
end Go.Proofs.YtlpkkkkgbnoiiaaDoor.H
end
section
namespace Go.Proofs.YtlpkkkkgbnoiiaaDoor.H
open Go.RowKit Go.Proofs.YtlpkkkkgbnoiiaaDoorW.PrintWords Go.Proofs.YtlpkkkkgbnoiiaaDoorW.PrintLast Go.Proofs.YtlpkkkkgbnoiiaaDoorW.PrintMore
open Go.Maps
set_option linter.unusedVariables false
set_option linter.unusedSimpArgs false
def oneOf (s : ByteArray) : Int × Int := if s.size = 0 then (0, 0) else (((Utf8.decode s 0).1 : Int), ((Utf8.decode s 0).2 : Int))
def arboristref01_one.f (a0 : ByteArray) : Option (Int × Int) := some (oneOf a0)
theorem ret_two {a b c d : Int} (h : (a, b) = (c, d)) : Ending.returned (.tuple #[.int .i32 a, .int .i64 b]) = .returned (.tuple #[.int .i32 c, .int .i64 d]) := by
  obtain ⟨rfl, rfl⟩ : a = c ∧ b = d := by simpa using h
  rfl
def OneRel (s : ByteArray) (w : World) (v4 v5 : Value) (wr : World) : Prop :=
  Below w.heap.size w wr ∧ v4 = .int .i64 s.size ∧ ((wr.heap[w.heap.size]? = some (.stringIter s 0) ∧ v5 = .int .i32 0) ∨ (0 < s.size ∧ wr.heap[w.heap.size]? = some (.stringIter s (Utf8.decode s 0).2) ∧ v5 = .int .i32 (Utf8.decode s 0).1))
set_option maxRecDepth 100000 in
set_option maxHeartbeats 1000000 in
theorem arboristref01_one.calls (a0 : ByteArray) (r1 : Int) (r2 : Int) (w : World) (h : arboristref01_one.f a0 = some (r1, r2)) :
    Calls Tryd.prog 30 #[.string a0] w fun e w' => e = .returned (.tuple #[.int .i32 r1, .int .i64 r2]) ∧ Below w.heap.size w w' := by
  have HP := Aside0.mk (Option.some.inj h)
  clear h
  go_enter Tryd.func30, Tryd.ntmps30
  go_wp2
  go_loopw [4, 5] (fun v4 v5 wr => OneRel a0 w v4 v5 wr) (fun _ _ wr => a0.size - wr.iterPos w.heap.size)
  case atStart => exact ⟨below_alloc (Below.refl _ _) _, rfl, .inl ⟨World.iter_heap w a0 0, rfl⟩⟩
  case round =>
    obtain ⟨hB, rfl, (⟨hit, rfl⟩ | ⟨h0, hit, rfl⟩)⟩ := hrel
    · by_cases hp : 0 < a0.size
      · have hnx : ∀ ty, (Instr.next (.pointer (some ⟨w.heap.size, 0, none⟩)) true ty).run Tryd.prog wr = _ := fun ty => Lib.run_next_any_at wr w.heap.size a0 0 ty hit hp
        have hwd := rune_w_pos a0 0
        have hit2 := Lib.iterAt_heap wr w.heap.size a0 0 (0 + (Utf8.decode a0 0).2) hit
        have hb2 := Lib.below_iterAt hB (k := w.heap.size) (Nat.le_refl _) a0 (0 + (Utf8.decode a0 0).2)
        rw [Nat.zero_add] at hit2 hb2
        have HIT := Aside0.mk hit
        have HIT2 := Aside0.mk hit2
        have HB2 := Aside0.mk hb2
        clear hit hit2 hb2 hB
        go_wp2
        go_roundw
        case rel => exact ⟨HB2.out, rfl, .inr ⟨hp, HIT2.out, rfl⟩⟩
        case measure => simp only [World.iterPos, HIT.out, HIT2.out]; omega
      · have hnx : ∀ ty, (Instr.next (.pointer (some ⟨w.heap.size, 0, none⟩)) true ty).run Tryd.prog wr = _ := fun ty => Lib.run_next_end_at wr w.heap.size a0 0 ty hit hp
        have HB := Aside0.mk hB
        clear hit hB
        go_wp2
        go_ret2
        exact ⟨ret_two (by rw [← HP.out]; have hz : a0.size = 0 := (by omega); simp [oneOf, hz]), HB.out⟩
    · by_cases hp : (Utf8.decode a0 0).2 < a0.size
      · have hnx : ∀ ty, (Instr.next (.pointer (some ⟨w.heap.size, 0, none⟩)) true ty).run Tryd.prog wr = _ := fun ty => Lib.run_next_any_at wr w.heap.size a0 _ ty hit hp
        have hwd := rune_w_pos a0 0
        have hb2 := Lib.below_iterAt hB (k := w.heap.size) (Nat.le_refl _) a0 ((Utf8.decode a0 0).2 + (Utf8.decode a0 (Utf8.decode a0 0).2).2)
        have HB2 := Aside0.mk hb2
        clear hit hb2 hB
        have h1 : 0 < ((Utf8.decode a0 0).2 : Int) := by omega
        go_wp2
        go_ret2
        exact ⟨ret_two (by rw [← HP.out]; unfold oneOf; rw [if_neg (by omega)]), HB2.out⟩
      · have hnx : ∀ ty, (Instr.next (.pointer (some ⟨w.heap.size, 0, none⟩)) true ty).run Tryd.prog wr = _ := fun ty => Lib.run_next_end_at wr w.heap.size a0 _ ty hit hp
        have HB := Aside0.mk hB
        clear hit hB
        have hwl := rune_w_le a0 0 h0
        go_wp2
        go_ret2
        exact ⟨ret_two (by rw [← HP.out]; unfold oneOf; rw [if_neg (by omega)]; simp; omega), HB.out⟩
end Go.Proofs.YtlpkkkkgbnoiiaaDoor.H
end
section
namespace Go.Proofs.YtlpkkkkgbnoiiaaDoor.H
open Go.RowKit Go.Proofs.YtlpkkkkgbnoiiaaDoorW.PrintWords Go.Proofs.YtlpkkkkgbnoiiaaDoorW.PrintLast Go.Proofs.YtlpkkkkgbnoiiaaDoorW.PrintMore
attribute [local go_sem] max2_int min2_int max_two min_two max_three min_three max_four min_four
set_option linter.unusedVariables false
set_option linter.unusedSimpArgs false


theorem eqA41 (d : Nat) (w : World) (x0 y0 : Int) (x1 y1 : Int) (x2 y2 : Int) :
  (Op.equalIn (d + 2) 41 (.agg #[.int .i32 x0, .int .i64 x1, .int .i64 x2]) (.agg #[.int .i32 y0, .int .i64 y1, .int .i64 y2])).run Tryd.prog w = .ok (x0 == y0 && (x1 == y1 && (x2 == y2))) w := by
 (refine eqA_of Tryd.underlying41 (by kernel_rfl) ?_); (refine eqf_cons (by rfl) (by go_simp; rfl) (by go_simp; rfl) (by go_simp) ?_); (refine eqf_cons (by rfl) (by go_simp; rfl) (by go_simp; rfl) (by go_simp) ?_); (exact eqf_last (by rfl) (by go_simp; rfl) (by go_simp; rfl) (by go_simp))
attribute [local go_sem high] eqA41
end Go.Proofs.YtlpkkkkgbnoiiaaDoor.H
end
section
namespace Go.Proofs.YtlpkkkkgbnoiiaaDoor.H
open Go.RowKit Go.Proofs.YtlpkkkkgbnoiiaaDoorW.PrintWords Go.Proofs.YtlpkkkkgbnoiiaaDoorW.PrintLast Go.Proofs.YtlpkkkkgbnoiiaaDoorW.PrintMore
set_option linter.unusedVariables false
def Ends {α : Type} (g : Nat → Option α) (v : α) : Prop := ∃ k0, ∀ k, k0 ≤ k → g k = some v
theorem Ends.const {α : Type} (v : α) : Ends (fun _ => some v) v := ⟨0, fun _ _ => rfl⟩
theorem Ends.of_mono {α : Type} {g : Nat → Option α} {v : α} (hm : ∀ k, LeO (g k) (g (k + 1))) (h : ∃ k, g k = some v) : Ends g v := by
  obtain ⟨k, hk⟩ := h
  refine ⟨k, fun m hmk => ?_⟩
  induction m with
  | zero => obtain rfl : k = 0 := by omega
            exact hk
  | succ m ih =>
    rcases Nat.lt_or_ge k (m + 1) with q | q
    · exact hm m v (ih (by omega))
    · obtain rfl : k = m + 1 := by omega
      exact hk
theorem Ends.step {α : Type} {g h : Nat → Option α} {v : α} (e : ∀ k, g (k + 1) = h k) (hh : Ends h v) : Ends g v := by
  obtain ⟨k0, hk⟩ := hh
  refine ⟨k0 + 1, fun k hk1 => ?_⟩
  obtain ⟨m, rfl⟩ : ∃ m, k = m + 1 := ⟨k - 1, by omega⟩
  rw [e]; exact hk m (by omega)
theorem Ends.bind {α β : Type} {f : Nat → Option α} {g : Nat → α → Option β} {a : α} {v : β} (hf : Ends f a) (hg : Ends (fun k => g k a) v) : Ends (fun k => (f k).bind (g k)) v := by
  obtain ⟨k1, h1⟩ := hf
  obtain ⟨k2, h2⟩ := hg
  refine ⟨k1 + k2, fun k hk => ?_⟩
  show (f k).bind (g k) = some v
  rw [h1 k (by omega)]; exact h2 k (by omega)
theorem Ends.bind0 {α β : Type} {f : Option α} {g : Nat → α → Option β} {a : α} {v : β} (hf : f = some a) (hg : Ends (fun k => g k a) v) : Ends (fun k => f.bind (g k)) v := by
  subst hf; exact hg
theorem Ends.pos {α : Type} {c : Prop} {d : Decidable c} {f g : Nat → Option α} {v : α} (hc : c) (h : Ends f v) : Ends (fun k => @ite _ c d (f k) (g k)) v := by
  obtain ⟨k0, hk⟩ := h
  exact ⟨k0, fun k hk1 => by simp only [if_pos hc]; exact hk k hk1⟩
theorem Ends.neg {α : Type} {c : Prop} {d : Decidable c} {f g : Nat → Option α} {v : α} (hc : ¬ c) (h : Ends g v) : Ends (fun k => @ite _ c d (f k) (g k)) v := by
  obtain ⟨k0, hk⟩ := h
  exact ⟨k0, fun k hk1 => by simp only [if_neg hc]; exact hk k hk1⟩
theorem Ends.get {α : Type} {g : Nat → Option α} {v : α} (h : Ends g v) : ∃ k, g k = some v := by
  obtain ⟨k0, hk⟩ := h
  exact ⟨k0, hk k0 (Nat.le_refl _)⟩
theorem Ends.cast {α : Type} {g h : Nat → Option α} {v : α} (hh : Ends h v) (e : ∀ k, g k = h k) : Ends g v := by
  obtain ⟨k0, hk⟩ := hh
  exact ⟨k0, fun k hk1 => (e k).trans (hk k hk1)⟩
theorem Ends.val {α : Type} {g : Nat → Option α} {v w : α} (h : Ends g v) (e : v = w) : Ends g w := e ▸ h
end Go.Proofs.YtlpkkkkgbnoiiaaDoor.H
end
section
namespace Go.Proofs.YtlpkkkkgbnoiiaaDoor.H
open Go.RowKit Go.Proofs.YtlpkkkkgbnoiiaaDoorW.PrintWords Go.Proofs.YtlpkkkkgbnoiiaaDoorW.PrintLast Go.Proofs.YtlpkkkkgbnoiiaaDoorW.PrintMore
attribute [local go_sem] max2_int min2_int max_two min_two max_three min_three max_four min_four
set_option linter.unusedVariables false
set_option linter.unusedSimpArgs false

def arboristref01_Invalid.f (a0_0 : Int) (a0_1 : Int) (a0_2 : Int) : Option (Bool) := if a0_0 = 65533 then (some (a0_2 == 1)) else (some false)
set_option maxHeartbeats 8000000 in
set_option maxRecDepth 100000 in
theorem arboristref01_Invalid.calls (a0_0 : Int) (a0_1 : Int) (a0_2 : Int) (r : Bool) (w : World) (h : arboristref01_Invalid.f a0_0 a0_1 a0_2 = some r) :
  Calls Tryd.prog 39 #[.agg #[.int .i32 a0_0, .int .i64 a0_1, .int .i64 a0_2]] w fun e w' => e = .returned (.bool r) ∧ Below w.heap.size w w' := by
 (have hu41 := Tryd.underlying41); (have HB := qM (Below.refl w.heap.size w)); (have H : (if a0_0 = 65533 then (some (a0_2 == 1)) else (some false)) = some r := h); clear h; (by_cases c2 : a0_0 = 65533)
 ·rw [if_pos c2] at H
  (have c2b0 : (a0_0 == 65533) = true := beq_iff_eq.mpr c2); (have c2b1 : (a0_0 != 65533) = false := bne_eq_false_iff_eq.mpr c2); clear c2; (obtain rfl := Option.some.inj H); (go_enter Tryd.func39, Tryd.ntmps39)
  go_wp2_with (first | ((with_reducible refine gate_dst (N := 1) rfl ?_); refine box_event ?hg (N := 1) ?hd (cs := #[.int .i32 a0_0, .int .i64 a0_1, .int .i64 a0_2]) (t := 41) ?hr ?_; (case hd => rfl); (case hg => rfl); (case hr => first | (go_simp; done) | (go_simp; rfl)); intro gb150 hg w3 hbox hb; have n0_ := qM (qP (by repeat (first | (with_reducible first | exact HB.out | apply qA | apply qN | apply qD) | exact HB.out)) hb); have n1_ := qM (hbox); have n2_ := qM ((by rw [hg]; exact (qZ (by repeat (first | (with_reducible first | exact HB.out | apply qA | apply qN | apply qD) | exact HB.out))) : w.heap.size ≤ gb150)); have n3_ := qM ((by rw [hg]; exact (qZ (by repeat (first | (with_reducible first | exact HB.out | apply qA | apply qN | apply qD) | exact HB.out))) : w.heap.size ≤ gb150)); clear HB; have HB := n0_; have BK150 := n1_; have GW150 := n2_; have GE150 := n3_; clear n0_ n1_ n2_ n3_; clear hb hbox hg; obtain ⟨hcz4_0, hcz4_1, hcz4_2, hfz4_0, hfz4_1, hfz4_2⟩ := bx3 BK150.out))
  (go_ret); (exact ⟨by first | rfl | (simp [errW_none, errW_some] <;> rfl) | (simp [*, errW_none, errW_some] <;> rfl), by repeat (first | (with_reducible first | exact HB.out | apply qA | apply qN | apply qD | refine qS ?_ GE150.out) | exact HB.out)⟩)
 ·rw [if_neg c2] at H
  (have c2b0 : (a0_0 == 65533) = false := beq_eq_false_iff_ne.mpr c2); (have c2b1 : (a0_0 != 65533) = true := bne_iff_ne.mpr c2); (obtain rfl := Option.some.inj H); (go_enter Tryd.func39, Tryd.ntmps39)
  go_wp2_with (first | ((with_reducible refine gate_dst (N := 1) rfl ?_); refine box_event ?hg (N := 1) ?hd (cs := #[.int .i32 a0_0, .int .i64 a0_1, .int .i64 a0_2]) (t := 41) ?hr ?_; (case hd => rfl); (case hg => rfl); (case hr => first | (go_simp; done) | (go_simp; rfl)); intro gb150 hg w5 hbox hb; have n0_ := qM (qP (by repeat (first | (with_reducible first | exact HB.out | apply qA | apply qN | apply qD) | exact HB.out)) hb); have n1_ := qM (hbox); have n2_ := qM ((by rw [hg]; exact (qZ (by repeat (first | (with_reducible first | exact HB.out | apply qA | apply qN | apply qD) | exact HB.out))) : w.heap.size ≤ gb150)); have n3_ := qM ((by rw [hg]; exact (qZ (by repeat (first | (with_reducible first | exact HB.out | apply qA | apply qN | apply qD) | exact HB.out))) : w.heap.size ≤ gb150)); clear HB; have HB := n0_; have BK150 := n1_; have GW150 := n2_; have GE150 := n3_; clear n0_ n1_ n2_ n3_; clear hb hbox hg; obtain ⟨hcz6_0, hcz6_1, hcz6_2, hfz6_0, hfz6_1, hfz6_2⟩ := bx3 BK150.out))
  (go_ret); (exact ⟨by first | rfl | (simp [errW_none, errW_some] <;> rfl) | (simp [*, errW_none, errW_some] <;> rfl), by repeat (first | (with_reducible first | exact HB.out | apply qA | apply qN | apply qD | refine qS ?_ GE150.out) | exact HB.out)⟩)
def arboristref01_digit.j0 : Nat → Int → Bool → Option (Int)
 | 0, _, _ => none
 | k + 1, x0, x8 => if x8 = true then (some ((x0 - 48) % 256)) else (if x0 ≥ 97 then (if x0 ≤ 102 then (some (((x0 - 97) % 256) + 10)) else (some (-1))) else (some (-1)))
def arboristref01_digit.f (k : Nat) (a0 : Int) : Option (Int) := if a0 ≥ 48 then (arboristref01_digit.j0 k a0 (decide (a0 ≤ 57))) else (arboristref01_digit.j0 k a0 false)
set_option maxHeartbeats 8000000 in
set_option maxRecDepth 100000 in
theorem arboristref01_digit.calls (k : Nat) (a0 : Int) (r : Int) (w : World) (h : arboristref01_digit.f k a0 = some r) :
  Calls Tryd.prog 63 #[.int .u8 a0] w fun e w' => e = .returned (.int .i64 r) ∧ Drawn0 w w' := by
 (have H : (if a0 ≥ 48 then (arboristref01_digit.j0 k a0 (decide (a0 ≤ 57))) else (arboristref01_digit.j0 k a0 false)) = some r := h); clear h; (have HC2 := qM H); clear H; (go_enter Tryd.func63, Tryd.ntmps63); (go_upto_region 1 with (fail)); (go_cut [8] (fun v8 wc => ∃ (kq : Nat) (x8_1 : Bool), v8 = .bool x8_1 ∧ Aside0 (arboristref01_digit.j0 kq a0 x8_1 = some r) ∧ Aside0 (kq ≤ k) ∧ Drawn0 w wc))
 case first =>
  (have H := HC2.out); clear HC2; (by_cases c3 : a0 ≥ 48)
  ·rw [if_pos c3] at H
   (have c3b0 : decide (48 ≤ a0) = true := decide_eq_true c3); clear c3; ((first | rw [c3b0] | (simp only [i64_w, i32_w]; rw [c3b0]) | skip)); (have H' := qM H); clear H; go_wp2; go_meet
   case rel => exact ⟨_, (decide (a0 ≤ 57)), (by first | rfl | (simp; done) | (simp [*]; done)), H', ⟨by first | omega | exact Nat.le_refl _⟩, by repeat (first | exact Drawn0.refl _ | apply Drawn0.step)⟩
  ·rw [if_neg c3] at H
   (have c3b0 : decide (48 ≤ a0) = false := decide_eq_false c3); clear c3; ((first | rw [c3b0] | (simp only [i64_w, i32_w]; rw [c3b0]) | skip)); (have H' := qM H); clear H; go_wp2; go_meet
   case rel => exact ⟨_, (false), (by first | rfl | (simp; done) | (simp [*]; done)), H', ⟨by first | omega | exact Nat.le_refl _⟩, by repeat (first | exact Drawn0.refl _ | apply Drawn0.step)⟩
 case rest =>
  clear HC2; (try clear p2); (try clear c3); (try clear c3b0); (obtain ⟨kq, x8_1, rfl, HA, HJ1, ⟨mc1, rfl⟩⟩ := hcut)
  cases kq with
  | zero => exact absurd HA.out (by simp [arboristref01_digit.j0])
  | succ kj1 =>
   (have H := HA.out); clear HA; (simp only [arboristref01_digit.j0] at H); (by_cases c4 : x8_1 = true)
   ·subst c4
    (have H1 : (some ((a0 - 48) % 256)) = some r := by rw [if_pos rfl] at H; exact H); clear H; (have H := H1); clear H1; (obtain rfl := Option.some.inj H); go_wp2; (go_ret); (exact ⟨by first | rfl | (simp; done) | (simp [*]; done), by repeat (first | exact Drawn0.refl _ | apply Drawn0.step)⟩)
   ·replace c4 := Bool.eq_false_iff.mpr c4
    subst c4; (have H1 : (if a0 ≥ 97 then (if a0 ≤ 102 then (some (((a0 - 97) % 256) + 10)) else (some (-1))) else (some (-1))) = some r := by rw [if_neg (show ¬ (false = true) by decide)] at H; exact H); clear H; (have H := H1); clear H1; (by_cases c5 : a0 ≥ 97)
    ·rw [if_pos c5] at H
     (have c5b0 : decide (97 ≤ a0) = true := decide_eq_true c5); clear c5; (by_cases c6 : a0 ≤ 102)
     ·rw [if_pos c6] at H
      (have c6b0 : decide (a0 ≤ 102) = true := decide_eq_true c6); clear c6; (obtain rfl := Option.some.inj H); go_wp2; (go_ret); (exact ⟨by first | rfl | (simp; done) | (simp [*]; done), by repeat (first | exact Drawn0.refl _ | apply Drawn0.step)⟩)
     ·rw [if_neg c6] at H
      (have c6b0 : decide (a0 ≤ 102) = false := decide_eq_false c6); clear c6; (obtain rfl := Option.some.inj H); go_wp2; (go_ret); (exact ⟨by first | rfl | (simp; done) | (simp [*]; done), by repeat (first | exact Drawn0.refl _ | apply Drawn0.step)⟩)
    ·rw [if_neg c5] at H
     (have c5b0 : decide (97 ≤ a0) = false := decide_eq_false c5); clear c5; (obtain rfl := Option.some.inj H); go_wp2; (go_ret); (exact ⟨by first | rfl | (simp; done) | (simp [*]; done), by repeat (first | exact Drawn0.refl _ | apply Drawn0.step)⟩)
mutual
def arboristref01_braced.j1 : Nat → ByteArray → Int → Int → Int → Option (Int × Int × Int)
 | 0, _, _, _, _ => none
 | k + 1, x0, x1, x9, x10 => if x10 = (x0.size : Int) then (some (0, 0, 13)) else (if 0 ≤ x10 then (if x10 < (x0.size : Int) then (if (bt x0 x10) = 10 then (some (0, 0, 13)) else (if (bt x0 x10) = 125 then (if (wrap64 (x10 - 1)) < x1 then (some (0, 0, 3)) else (some (x9, wrap64 (x10 + 1), 0))) else (some (0, 0, 3)))) else (none)) else (none))
def arboristref01_braced.l0 : Nat → ByteArray → Int → Int → Int → Int → Option (Int × Int × Int)
 | 0, _, _, _, _, _ => none
 | k + 1, x0, x1, x2, x9, x10 => if x10 < (x0.size : Int) then (if x10 ≤ x2 then (if 0 ≤ x10 then ((arboristref01_digit.f k (bt x0 x10)).bind fun t213 => (if t213 ≥ 0 then ((arboristref01_digit.f k (bt x0 x10)).bind fun t214 => (arboristref01_braced.l0 k x0 x1 x2 (wrap64 ((wrap64 (16 * x9)) + t214)) (wrap64 (x10 + 1)))) else (arboristref01_braced.j1 k x0 x1 x9 x10))) else (none)) else (arboristref01_braced.j1 k x0 x1 x9 x10)) else (arboristref01_braced.j1 k x0 x1 x9 x10)
end
def arboristref01_braced.f (k : Nat) (a0 : ByteArray) (a1 : Int) (a2 : Int) : Option (Int × Int × Int) := if a0.toList = ([] : List UInt8) then (some (0, 0, 13)) else (if 0 < (a0.size : Int) then (if (bt a0 0) = 123 then (arboristref01_braced.l0 k a0 a1 a2 0 1) else (some (0, 0, 3))) else (none))
set_option maxHeartbeats 8000000 in
set_option maxRecDepth 100000 in
theorem arboristref01_braced.calls (k : Nat) (a0 : ByteArray) (a1 : Int) (a2 : Int) (r1 : Int) (r2 : Int) (r3 : Int) (w : World) (h : arboristref01_braced.f k a0 a1 a2 = some (r1, r2, r3)) :
  Calls Tryd.prog 54 #[.string a0, .int .i64 a1, .int .i64 a2] w fun e w' => e = .returned (.tuple #[.int .i64 r1, .int .i64 r2, .int .i64 r3]) ∧ Drawn0 w w' := by
 (have H : (if a0.toList = ([] : List UInt8) then (some (0, 0, 13)) else (if 0 < (a0.size : Int) then (if (bt a0 0) = 123 then (arboristref01_braced.l0 k a0 a1 a2 0 1) else (some (0, 0, 3))) else (none))) = some (r1, r2, r3) := h); clear h; (by_cases c4 : a0.toList = ([] : List UInt8))
 ·rw [if_pos c4] at H
  (have c4b0 : (a0.toList == ([] : List UInt8)) = true := beq_iff_eq.mpr c4); (have c4b1 : (a0.toList != ([] : List UInt8)) = false := bne_eq_false_iff_eq.mpr c4); clear c4; (simp only [Option.some.injEq, Prod.mk.injEq] at H); (obtain ⟨rfl, rfl, rfl⟩ := H); (go_enter Tryd.func54, Tryd.ntmps54); go_wp2; (go_ret3); (exact ⟨by first | rfl | (simp; done) | (simp [*]; done), by repeat (first | exact Drawn0.refl _ | apply Drawn0.step)⟩)
 ·rw [if_neg c4] at H
  (have c4b0 : (a0.toList == ([] : List UInt8)) = false := beq_eq_false_iff_ne.mpr c4); (have c4b1 : (a0.toList != ([] : List UInt8)) = true := bne_iff_ne.mpr c4); (by_cases c5 : 0 < (a0.size : Int))
  ·rw [if_pos c5] at H
   (have c5b0 : decide (0 < (a0.size : Int)) = true := decide_eq_true c5); (have c5b1 : decide (0 < a0.size) = true := decide_eq_true (by omega)); clear c5; (by_cases c7 : (bt a0 0) = 123)
   ·rw [if_pos c7] at H
    (have c7b0 : ((bt a0 0) == 123) = true := beq_iff_eq.mpr c7); (have c7b1 : ((bt a0 0) != 123) = false := bne_eq_false_iff_eq.mpr c7); clear c7; (have HC8 := qM H); clear H; (have p6 : 0 ≤ (0 : Int) := (by omega)); (have q6 : 0 < a0.size := (by have : (0 : Int) < (a0.size : Int) := qo (by first | (with_reducible assumption) | assumption); omega)); (have hx6 : ∀ h : 0 < a0.size, ((a0[0]'h).toNat : Int) = bt a0 0 := bt_at a0 0); clear p6; (have qi6 : (0 < (a0.size : Int)) = True := eq_true (qo (by first | (with_reducible assumption) | assumption))); (replace q6 := eq_true q6); (go_enter Tryd.func54, Tryd.ntmps54); (go_upto_block 0 with (fail)); (go_cut [9, 10] (fun v9 v10 wc => ∃ (kq : Nat) (x9_7 : Int) (x10_7 : Int), v9 = .int .i64 x9_7 ∧ v10 = .int .i64 x10_7 ∧ Aside0 (arboristref01_braced.j1 kq a0 a1 x9_7 x10_7 = some (r1, r2, r3)) ∧ Aside0 (kq ≤ k) ∧ Drawn0 w wc))
    case first =>
     (have H := HC8.out); clear HC8; (have H' := qM H); clear H; go_wp2; (go_loopg [9, 10] k (fun kq v9 v10 w' => ∃ (x9_1 : Int) (x10_1 : Int), v9 = .int .i64 x9_1 ∧ v10 = .int .i64 x10_1 ∧ Aside0 (arboristref01_braced.l0 kq a0 a1 a2 x9_1 x10_1 = some (r1, r2, r3)) ∧ Aside0 (kq ≤ k) ∧ Drawn0 w w'))
     case atStart => exact ⟨(0), (1), (by first | rfl | (simp; done) | (simp [*]; done)), (by first | rfl | (simp; done) | (simp [*]; done)), H', ⟨Nat.le_refl _⟩, by repeat (first | exact Drawn0.refl _ | apply Drawn0.step)⟩
     case round =>
      (clear H'); (try clear p2); (try clear c4); (try clear c4b0); (try clear c4b1); (try clear c5); (try clear c5b0); (try clear c5b1); (try clear p6); (try clear q6); (try clear hx6); (try clear qi6); (try clear c7); (try clear c7b0); (try clear c7b1); (try clear p6); (try clear q6); (obtain ⟨x9_1, x10_1, rfl, rfl, HA, HK1, ⟨m1, rfl⟩⟩ := hrel)
      cases gk with
      | zero => exact absurd HA.out (by simp [arboristref01_braced.l0])
      | succ k1 =>
       (have H := HA.out); clear HA; (simp only [arboristref01_braced.l0] at H); (by_cases c9 : x10_1 < (a0.size : Int))
       ·rw [if_pos c9] at H
        (have c9b0 : decide (x10_1 < (a0.size : Int)) = true := decide_eq_true c9); clear c9; ((first | rw [c9b0] | (simp only [i64_w, i32_w]; rw [c9b0]) | skip)); (by_cases c10 : x10_1 ≤ a2)
        ·rw [if_pos c10] at H
         (have c10b0 : decide (x10_1 ≤ a2) = true := decide_eq_true c10); clear c10; (by_cases c11 : 0 ≤ x10_1)
         ·rw [if_pos c11] at H
          (have c11b0 : decide (0 ≤ x10_1) = true := decide_eq_true c11); clear c11; (replace H := Option.bind_eq_some_iff.mp H); (obtain ⟨t213, A130, H⟩ := H); (replace H : (if t213 ≥ 0 then ((arboristref01_digit.f k1 (bt a0 x10_1)).bind fun t214 => (arboristref01_braced.l0 k1 a0 a1 a2 (wrap64 ((wrap64 (16 * x9_1)) + t214)) (wrap64 (x10_1 + 1)))) else (arboristref01_braced.j1 k1 a0 a1 x9_1 x10_1)) = some (r1, r2, r3) := H); (have A13 := qM A130); clear A130; (by_cases c14 : t213 ≥ 0)
          ·rw [if_pos c14] at H
           (have c14b0 : decide (0 ≤ t213) = true := decide_eq_true c14); clear c14; (replace H := Option.bind_eq_some_iff.mp H); (obtain ⟨t214, A160, H⟩ := H); (replace H : (arboristref01_braced.l0 k1 a0 a1 a2 (wrap64 ((wrap64 (16 * x9_1)) + t214)) (wrap64 (x10_1 + 1))) = some (r1, r2, r3) := H); (have A16 := qM A160); clear A160; (have H' := qM H); clear H; (have p12 : 0 ≤ (x10_1 : Int) := qo (by first | (with_reducible assumption) | assumption)); (have q12 : x10_1 < (a0.size : Int) := qo (by first | (with_reducible assumption) | assumption)); (have hx12 := bt_at a0 x10_1); (replace p12 := eq_true p12); (replace q12 := eq_true q12)
           go_wp2_with (first | (go_at_call 63; (with_reducible refine (arboristref01_digit.calls k1 (bt a0 x10_1) t213 _ A13.out).mono ?_); rintro e w' ⟨rfl, ⟨nd, rfl⟩⟩; have p15 : 0 ≤ (x10_1 : Int) := qo (by first | (with_reducible assumption) | assumption); have q15 : x10_1 < (a0.size : Int) := qo (by first | (with_reducible assumption) | assumption); have hx15 := bt_at a0 x10_1; replace p15 := eq_true p15; replace q15 := eq_true q15) | ((with_reducible refine gate_callee (f := 63) rfl ?_); refine goesL_ (some 37) rfl rfl Tryd.func63 (by kernel_rfl) rfl #[.int .u8 (bt a0 x10_1)] rfl (by (try simp only [List.map_toArray, List.map_cons, List.map_nil]); first | done | rfl | (simp only [List.length_drop, List.length_take]; rfl)) ?_; (with_reducible refine (arboristref01_digit.calls k1 (bt a0 x10_1) t214 _ A16.out).mono ?_); rintro e w' ⟨rfl, ⟨nd, rfl⟩⟩; refine ⟨_, rfl, ?_⟩))
           go_roundg k1
           case measure => have := HK1.out; omega
           case rel => exact ⟨(wrap64 ((wrap64 (16 * x9_1)) + t214)), (wrap64 (x10_1 + 1)), (by first | rfl | (simp; done) | (simp [*]; done)), (by first | rfl | (simp; done) | (simp [*]; done)), H', ⟨by have := HK1.out; omega⟩, by repeat (first | exact Drawn0.refl _ | apply Drawn0.step)⟩
          ·rw [if_neg c14] at H
           (have c14b0 : decide (0 ≤ t213) = false := decide_eq_false c14); clear c14; (have H' := qM H); clear H; (have p12 : 0 ≤ (x10_1 : Int) := qo (by first | (with_reducible assumption) | assumption)); (have q12 : x10_1 < (a0.size : Int) := qo (by first | (with_reducible assumption) | assumption)); (have hx12 := bt_at a0 x10_1); (replace p12 := eq_true p12); (replace q12 := eq_true q12); (go_wp2_with (first | (go_at_call 63; (with_reducible refine (arboristref01_digit.calls k1 (bt a0 x10_1) t213 _ A13.out).mono ?_); rintro e w' ⟨rfl, ⟨nd, rfl⟩⟩))); go_meet
           case rel => exact ⟨_, (x9_1), (x10_1), (by first | rfl | (simp; done) | (simp [*]; done)), (by first | rfl | (simp; done) | (simp [*]; done)), H', ⟨by have := HK1.out; first | omega | exact Nat.le_refl _⟩, by repeat (first | exact Drawn0.refl _ | apply Drawn0.step)⟩
         ·rw [if_neg c11] at H
          exact absurd H (by simp)
        ·rw [if_neg c10] at H
         (have c10b0 : decide (x10_1 ≤ a2) = false := decide_eq_false c10); clear c10; (have H' := qM H); clear H; go_wp2; go_meet
         case rel => exact ⟨_, (x9_1), (x10_1), (by first | rfl | (simp; done) | (simp [*]; done)), (by first | rfl | (simp; done) | (simp [*]; done)), H', ⟨by have := HK1.out; first | omega | exact Nat.le_refl _⟩, by repeat (first | exact Drawn0.refl _ | apply Drawn0.step)⟩
       ·rw [if_neg c9] at H
        (have c9b0 : decide (x10_1 < (a0.size : Int)) = false := decide_eq_false c9); clear c9; ((first | rw [c9b0] | (simp only [i64_w, i32_w]; rw [c9b0]) | skip)); (have H' := qM H); clear H; go_wp2; go_meet
        case rel => exact ⟨_, (x9_1), (x10_1), (by first | rfl | (simp; done) | (simp [*]; done)), (by first | rfl | (simp; done) | (simp [*]; done)), H', ⟨by have := HK1.out; first | omega | exact Nat.le_refl _⟩, by repeat (first | exact Drawn0.refl _ | apply Drawn0.step)⟩
    case rest =>
     clear HC8; (try clear c1); (try clear p1); (try clear q1); (try clear hx1); (try clear p2); (try clear c4); (try clear c4b0); (try clear c4b1); (try clear c5); (try clear c5b0); (try clear c5b1); (try clear c6); (try clear p6); (try clear q6); (try clear hx6); (try clear qi6); (try clear c7); (try clear c7b0); (try clear c7b1); (try clear c9); (try clear c9b0); (try clear c10); (try clear c10b0); (try clear c11); (try clear c11b0); (try clear p12); (try clear q12); (try clear hx12); (try clear c14); (try clear c14b0); (try clear p15); (try clear q15); (try clear hx15); (try clear p12); (try clear p15); (try clear p2); (try clear p6); (try clear q12); (try clear q15); (try clear q6); (obtain ⟨kq, x9_7, x10_7, rfl, rfl, HA, HJ7, ⟨mc7, rfl⟩⟩ := hcut)
     cases kq with
     | zero => exact absurd HA.out (by simp [arboristref01_braced.j1])
     | succ kj7 =>
      (have H := HA.out); clear HA; (simp only [arboristref01_braced.j1] at H); (by_cases c17 : x10_7 = (a0.size : Int))
      ·rw [if_pos c17] at H
       (have c17b0 : (x10_7 == (a0.size : Int)) = true := beq_iff_eq.mpr c17); (have c17b1 : (x10_7 != (a0.size : Int)) = false := bne_eq_false_iff_eq.mpr c17); clear c17; (simp only [Option.some.injEq, Prod.mk.injEq] at H); (obtain ⟨rfl, rfl, rfl⟩ := H); go_wp2; (go_ret3); (exact ⟨by first | rfl | (simp; done) | (simp [*]; done), by repeat (first | exact Drawn0.refl _ | apply Drawn0.step)⟩)
      ·rw [if_neg c17] at H
       (have c17b0 : (x10_7 == (a0.size : Int)) = false := beq_eq_false_iff_ne.mpr c17); (have c17b1 : (x10_7 != (a0.size : Int)) = true := bne_iff_ne.mpr c17); (by_cases c18 : 0 ≤ x10_7)
       ·rw [if_pos c18] at H
        (have c18b0 : decide (0 ≤ x10_7) = true := decide_eq_true c18); clear c18; (by_cases c19 : x10_7 < (a0.size : Int))
        ·rw [if_pos c19] at H
         (have c19b0 : decide (x10_7 < (a0.size : Int)) = true := decide_eq_true c19); clear c19; (by_cases c21 : (bt a0 x10_7) = 10)
         ·rw [if_pos c21] at H
          (have c21b0 : ((bt a0 x10_7) == 10) = true := beq_iff_eq.mpr c21); (have c21b1 : ((bt a0 x10_7) != 10) = false := bne_eq_false_iff_eq.mpr c21); clear c21; (simp only [Option.some.injEq, Prod.mk.injEq] at H); (obtain ⟨rfl, rfl, rfl⟩ := H); (have p20 : 0 ≤ (x10_7 : Int) := qo (by first | (with_reducible assumption) | assumption)); (have q20 : x10_7 < (a0.size : Int) := qo (by first | (with_reducible assumption) | assumption)); (have hx20 := bt_at a0 x10_7); (replace p20 := eq_true p20); (replace q20 := eq_true q20); go_wp2; (go_ret3); (exact ⟨by first | rfl | (simp; done) | (simp [*]; done), by repeat (first | exact Drawn0.refl _ | apply Drawn0.step)⟩)
         ·rw [if_neg c21] at H
          (have c21b0 : ((bt a0 x10_7) == 10) = false := beq_eq_false_iff_ne.mpr c21); (have c21b1 : ((bt a0 x10_7) != 10) = true := bne_iff_ne.mpr c21); (by_cases c23 : (bt a0 x10_7) = 125)
          ·rw [if_pos c23] at H
           (have c23b0 : ((bt a0 x10_7) == 125) = true := beq_iff_eq.mpr c23); (have c23b1 : ((bt a0 x10_7) != 125) = false := bne_eq_false_iff_eq.mpr c23); clear c23; (by_cases c24 : (wrap64 (x10_7 - 1)) < a1)
           ·rw [if_pos c24] at H
            (have c24b0 : decide ((wrap64 (x10_7 - 1)) < a1) = true := decide_eq_true c24); clear c24; (simp only [Option.some.injEq, Prod.mk.injEq] at H); (obtain ⟨rfl, rfl, rfl⟩ := H); (have p20 : 0 ≤ (x10_7 : Int) := qo (by first | (with_reducible assumption) | assumption)); (have q20 : x10_7 < (a0.size : Int) := qo (by first | (with_reducible assumption) | assumption)); (have hx20 := bt_at a0 x10_7); (replace p20 := eq_true p20); (replace q20 := eq_true q20); (have p22 : 0 ≤ (x10_7 : Int) := qo (by first | (with_reducible assumption) | assumption)); (have q22 : x10_7 < (a0.size : Int) := qo (by first | (with_reducible assumption) | assumption)); (have hx22 := bt_at a0 x10_7); (replace p22 := eq_true p22); (replace q22 := eq_true q22); go_wp2; (go_ret3); (exact ⟨by first | rfl | (simp; done) | (simp [*]; done), by repeat (first | exact Drawn0.refl _ | apply Drawn0.step)⟩)
           ·rw [if_neg c24] at H
            (have c24b0 : decide ((wrap64 (x10_7 - 1)) < a1) = false := decide_eq_false c24); clear c24; (simp only [Option.some.injEq, Prod.mk.injEq] at H); (obtain ⟨rfl, rfl, rfl⟩ := H); (have p20 : 0 ≤ (x10_7 : Int) := qo (by first | (with_reducible assumption) | assumption)); (have q20 : x10_7 < (a0.size : Int) := qo (by first | (with_reducible assumption) | assumption)); (have hx20 := bt_at a0 x10_7); (replace p20 := eq_true p20); (replace q20 := eq_true q20); (have p22 : 0 ≤ (x10_7 : Int) := qo (by first | (with_reducible assumption) | assumption)); (have q22 : x10_7 < (a0.size : Int) := qo (by first | (with_reducible assumption) | assumption)); (have hx22 := bt_at a0 x10_7); (replace p22 := eq_true p22); (replace q22 := eq_true q22); go_wp2; (go_ret3); (exact ⟨by first | rfl | (simp; done) | (simp [*]; done), by repeat (first | exact Drawn0.refl _ | apply Drawn0.step)⟩)
          ·rw [if_neg c23] at H
           (have c23b0 : ((bt a0 x10_7) == 125) = false := beq_eq_false_iff_ne.mpr c23); (have c23b1 : ((bt a0 x10_7) != 125) = true := bne_iff_ne.mpr c23); (simp only [Option.some.injEq, Prod.mk.injEq] at H); (obtain ⟨rfl, rfl, rfl⟩ := H); (have p20 : 0 ≤ (x10_7 : Int) := qo (by first | (with_reducible assumption) | assumption)); (have q20 : x10_7 < (a0.size : Int) := qo (by first | (with_reducible assumption) | assumption)); (have hx20 := bt_at a0 x10_7); (replace p20 := eq_true p20); (replace q20 := eq_true q20); (have p22 : 0 ≤ (x10_7 : Int) := qo (by first | (with_reducible assumption) | assumption)); (have q22 : x10_7 < (a0.size : Int) := qo (by first | (with_reducible assumption) | assumption)); (have hx22 := bt_at a0 x10_7); (replace p22 := eq_true p22); (replace q22 := eq_true q22); go_wp2; (go_ret3); (exact ⟨by first | rfl | (simp; done) | (simp [*]; done), by repeat (first | exact Drawn0.refl _ | apply Drawn0.step)⟩)
        ·rw [if_neg c19] at H
         exact absurd H (by simp)
       ·rw [if_neg c18] at H
        exact absurd H (by simp)
   ·rw [if_neg c7] at H
    (have c7b0 : ((bt a0 0) == 123) = false := beq_eq_false_iff_ne.mpr c7); (have c7b1 : ((bt a0 0) != 123) = true := bne_iff_ne.mpr c7); (simp only [Option.some.injEq, Prod.mk.injEq] at H); (obtain ⟨rfl, rfl, rfl⟩ := H); (have p6 : 0 ≤ (0 : Int) := (by omega)); (have q6 : 0 < a0.size := (by have : (0 : Int) < (a0.size : Int) := qo (by first | (with_reducible assumption) | assumption); omega)); (have hx6 : ∀ h : 0 < a0.size, ((a0[0]'h).toNat : Int) = bt a0 0 := bt_at a0 0); clear p6; (have qi6 : (0 < (a0.size : Int)) = True := eq_true (qo (by first | (with_reducible assumption) | assumption))); (replace q6 := eq_true q6); (go_enter Tryd.func54, Tryd.ntmps54); go_wp2; (go_ret3); (exact ⟨by first | rfl | (simp; done) | (simp [*]; done), by repeat (first | exact Drawn0.refl _ | apply Drawn0.step)⟩)
  ·rw [if_neg c5] at H
   exact absurd H (by simp)
mutual
def arboristref01_escape.j0 : Nat → ByteArray → Bool → Option (ByteArray × Int × Int)
 | 0, _, _ => none
 | k + 1, x0, x17 => if x17 = true then (some ((⟨#[]⟩ : ByteArray), 0, 13)) else (if 0 < (x0.size : Int) then (if (bt x0 0) = 34 then (arboristref01_escape.j1 k x0 (bt x0 0) ((bt x0 0) == 34)) else (arboristref01_escape.j1 k x0 (bt x0 0) ((bt x0 0) == 92))) else (none))
def arboristref01_escape.j1 : Nat → ByteArray → Int → Bool → Option (ByteArray × Int × Int)
 | 0, _, _, _ => none
 | k + 1, x0, x19, x20 => if x20 = true then (if 0 ≤ 1 then (if 1 ≤ (x0.size : Int) then (some (x0.extract 0 1, 1, 0)) else (none)) else (none)) else (if x19 = 110 then (some ((⟨#[10]⟩ : ByteArray), 1, 0)) else (if x19 = 114 then (some ((⟨#[13]⟩ : ByteArray), 1, 0)) else (if x19 = 116 then (some ((⟨#[9]⟩ : ByteArray), 1, 0)) else (if x19 = 120 then (if (x0.size : Int) > 1 then (if 1 < (x0.size : Int) then (if (bt x0 1) = 10 then (some ((⟨#[]⟩ : ByteArray), 0, 13)) else (if 1 ≤ (x0.size : Int) then ((arboristref01_braced.f k (x0.extract 1 x0.size) 2 2).bind fun bt215 => (some (strOfNums (([(bt215.1) % 256] : List Int)), wrap64 (1 + bt215.2.1), bt215.2.2))) else (none))) else (none)) else (if 1 ≤ (x0.size : Int) then ((arboristref01_braced.f k (x0.extract 1 x0.size) 2 2).bind fun bt221 => (some (strOfNums (([(bt221.1) % 256] : List Int)), wrap64 (1 + bt221.2.1), bt221.2.2))) else (none))) else (if x19 = 117 then (if (x0.size : Int) > 1 then (if 1 < (x0.size : Int) then (arboristref01_escape.j2 k x0 ((bt x0 1) == 10)) else (none)) else (arboristref01_escape.j2 k x0 false)) else (some ((⟨#[]⟩ : ByteArray), 0, 3)))))))
def arboristref01_escape.j2 : Nat → ByteArray → Bool → Option (ByteArray × Int × Int)
 | 0, _, _ => none
 | k + 1, x0, x64 => if x64 = true then (some ((⟨#[]⟩ : ByteArray), 0, 13)) else (if 1 ≤ (x0.size : Int) then ((arboristref01_braced.f k (x0.extract 1 x0.size) 1 6).bind fun bt227 => (if bt227.2.2 = 0 then (if bt227.1 > 1114111 then (some ((Utf8.encode (wrap32 (bt227.1))), wrap64 (1 + bt227.2.1), 3)) else (if bt227.1 ≥ 55296 then (if bt227.1 ≤ 57343 then (some ((Utf8.encode (wrap32 (bt227.1))), wrap64 (1 + bt227.2.1), 3)) else (some ((Utf8.encode (wrap32 (bt227.1))), wrap64 (1 + bt227.2.1), bt227.2.2))) else (some ((Utf8.encode (wrap32 (bt227.1))), wrap64 (1 + bt227.2.1), bt227.2.2)))) else (some ((Utf8.encode (wrap32 (bt227.1))), wrap64 (1 + bt227.2.1), bt227.2.2)))) else (none))
end
def arboristref01_escape.f (k : Nat) (a0 : ByteArray) : Option (ByteArray × Int × Int) := if a0.toList = ([] : List UInt8) then (arboristref01_escape.j0 k a0 true) else (if 0 < (a0.size : Int) then (arboristref01_escape.j0 k a0 ((bt a0 0) == 10)) else (none))
set_option maxHeartbeats 8000000 in
set_option maxRecDepth 100000 in
theorem arboristref01_escape.calls (k : Nat) (a0 : ByteArray) (r1 : ByteArray) (r2 : Int) (r3 : Int) (w : World) (h : arboristref01_escape.f k a0 = some (r1, r2, r3)) :
  Calls Tryd.prog 41 #[.string a0] w fun e w' => e = .returned (.tuple #[.string r1, .int .i64 r2, .int .i64 r3]) ∧ Below w.heap.size w w' := by
 (have HB := qM (Below.refl w.heap.size w)); (have H : (if a0.toList = ([] : List UInt8) then (arboristref01_escape.j0 k a0 true) else (if 0 < (a0.size : Int) then (arboristref01_escape.j0 k a0 ((bt a0 0) == 10)) else (none))) = some (r1, r2, r3) := h); clear h; (have HC2 := qM H); clear H; (go_enter Tryd.func41, Tryd.ntmps41); (go_upto_region 1 with (fail)); (go_cut [17] (fun v17 wc => ∃ (kq : Nat) (x17_1 : Bool), v17 = .bool x17_1 ∧ Aside0 (arboristref01_escape.j0 kq a0 x17_1 = some (r1, r2, r3)) ∧ Aside0 (kq ≤ k) ∧ Aside0 (Below w.heap.size w wc)))
 case first =>
  (have H := HC2.out); clear HC2; (by_cases c3 : a0.toList = ([] : List UInt8))
  ·rw [if_pos c3] at H
   (have c3b0 : (a0.toList == ([] : List UInt8)) = true := beq_iff_eq.mpr c3); (have c3b1 : (a0.toList != ([] : List UInt8)) = false := bne_eq_false_iff_eq.mpr c3); clear c3; ((first | rw [c3b0] | (simp only [i64_w, i32_w]; rw [c3b0]) | skip)); (have H' := qM H); clear H; go_wp2; go_meet
   case rel => exact ⟨_, (true), (by first | rfl | (simp; done) | (simp [*]; done)), H', ⟨by first | omega | exact Nat.le_refl _⟩, ⟨by repeat (first | (with_reducible first | exact HB.out | apply qA | apply qN | apply qD) | exact HB.out)⟩⟩
  ·rw [if_neg c3] at H
   (have c3b0 : (a0.toList == ([] : List UInt8)) = false := beq_eq_false_iff_ne.mpr c3); (have c3b1 : (a0.toList != ([] : List UInt8)) = true := bne_iff_ne.mpr c3); ((first | rw [c3b0] | (simp only [i64_w, i32_w]; rw [c3b0]) | skip)); (by_cases c4 : 0 < (a0.size : Int))
   ·rw [if_pos c4] at H
    (have c4b0 : decide (0 < (a0.size : Int)) = true := decide_eq_true c4); (have c4b1 : decide (0 < a0.size) = true := decide_eq_true (by omega)); clear c4; (have H' := qM H); clear H; (have p5 : 0 ≤ (0 : Int) := (by omega)); (have q5 : 0 < a0.size := (by have : (0 : Int) < (a0.size : Int) := qo (by first | (with_reducible assumption) | assumption); omega)); (have hx5 : ∀ h : 0 < a0.size, ((a0[0]'h).toNat : Int) = bt a0 0 := bt_at a0 0); clear p5; (have qi5 : (0 < (a0.size : Int)) = True := eq_true (qo (by first | (with_reducible assumption) | assumption))); (replace q5 := eq_true q5); go_wp2; go_meet
    case rel => exact ⟨_, (((bt a0 0) == 10)), (by first | rfl | (simp; done) | (simp [*]; done)), H', ⟨by first | omega | exact Nat.le_refl _⟩, ⟨by repeat (first | (with_reducible first | exact HB.out | apply qA | apply qN | apply qD) | exact HB.out)⟩⟩
   ·rw [if_neg c4] at H
    exact absurd H (by simp)
 case rest =>
  clear HC2; (try clear p2); (try clear c3); (try clear c3b0); (try clear c3b1); (try clear c4); (try clear c4b0); (try clear c4b1); (try clear p5); (try clear q5); (try clear hx5); (try clear qi5); (try clear p5); (try clear q5); (obtain ⟨kq, x17_1, rfl, HA, HJ1, HB⟩ := hcut)
  cases kq with
  | zero => exact absurd HA.out (by simp [arboristref01_escape.j0])
  | succ kj1 =>
   (have H := HA.out); clear HA; (simp only [arboristref01_escape.j0] at H); (by_cases c6 : x17_1 = true)
   ·subst c6
    (have H1 : (some ((⟨#[]⟩ : ByteArray), 0, 13)) = some (r1, r2, r3) := by rw [if_pos rfl] at H; exact H); clear H; (have H := H1); clear H1; (simp only [Option.some.injEq, Prod.mk.injEq] at H); (obtain ⟨rfl, rfl, rfl⟩ := H); go_wp2; (go_ret3); (exact ⟨by first | rfl | (simp [errW_none, errW_some] <;> rfl) | (simp [*, errW_none, errW_some] <;> rfl), by repeat (first | (with_reducible first | exact HB.out | apply qA | apply qN | apply qD) | exact HB.out)⟩)
   ·replace c6 := Bool.eq_false_iff.mpr c6
    subst c6; (have H1 : (if 0 < (a0.size : Int) then (if (bt a0 0) = 34 then (arboristref01_escape.j1 kj1 a0 (bt a0 0) ((bt a0 0) == 34)) else (arboristref01_escape.j1 kj1 a0 (bt a0 0) ((bt a0 0) == 92))) else (none)) = some (r1, r2, r3) := by rw [if_neg (show ¬ (false = true) by decide)] at H; exact H); clear H; (have H := H1); clear H1; (by_cases c7 : 0 < (a0.size : Int))
    ·rw [if_pos c7] at H
     (have c7b0 : decide (0 < (a0.size : Int)) = true := decide_eq_true c7); (have c7b1 : decide (0 < a0.size) = true := decide_eq_true (by omega)); clear c7; (have HC9 := qM H); clear H; (have p8 : 0 ≤ (0 : Int) := (by omega)); (have q8 : 0 < a0.size := (by have : (0 : Int) < (a0.size : Int) := qo (by first | (with_reducible assumption) | assumption); omega)); (have hx8 : ∀ h : 0 < a0.size, ((a0[0]'h).toNat : Int) = bt a0 0 := bt_at a0 0); clear p8; (have qi8 : (0 < (a0.size : Int)) = True := eq_true (qo (by first | (with_reducible assumption) | assumption))); (replace q8 := eq_true q8); (go_upto_if 20 with (fail)); (go_cut [20] (fun v20 wc => ∃ (kq : Nat) (x20_8 : Bool), v20 = .bool x20_8 ∧ Aside0 (arboristref01_escape.j1 kq a0 (bt a0 0) x20_8 = some (r1, r2, r3)) ∧ Aside0 (kq ≤ kj1) ∧ Aside0 (Below w.heap.size w wc)))
     case first =>
      (have H := HC9.out); clear HC9; (by_cases c10 : (bt a0 0) = 34)
      ·rw [if_pos c10] at H
       (have c10b0 : ((bt a0 0) == 34) = true := beq_iff_eq.mpr c10); (have c10b1 : ((bt a0 0) != 34) = false := bne_eq_false_iff_eq.mpr c10); clear c10; ((first | rw [c10b0] | (simp only [i64_w, i32_w]; rw [c10b0]) | skip)); (have H' := qM H); clear H; go_wp2; go_meet
       case rel => exact ⟨_, (((bt a0 0) == 34)), (by first | rfl | (simp; done) | (simp [*]; done)), H', ⟨by have := HJ1.out; first | omega | exact Nat.le_refl _⟩, ⟨by repeat (first | (with_reducible first | exact HB.out | apply qA | apply qN | apply qD) | exact HB.out)⟩⟩
      ·rw [if_neg c10] at H
       (have c10b0 : ((bt a0 0) == 34) = false := beq_eq_false_iff_ne.mpr c10); (have c10b1 : ((bt a0 0) != 34) = true := bne_iff_ne.mpr c10); ((first | rw [c10b0] | (simp only [i64_w, i32_w]; rw [c10b0]) | skip)); (have H' := qM H); clear H; go_wp2; go_meet
       case rel => exact ⟨_, (((bt a0 0) == 92)), (by first | rfl | (simp; done) | (simp [*]; done)), H', ⟨by have := HJ1.out; first | omega | exact Nat.le_refl _⟩, ⟨by repeat (first | (with_reducible first | exact HB.out | apply qA | apply qN | apply qD) | exact HB.out)⟩⟩
     case rest =>
      clear HC9; (try clear c1); (try clear p2); (try clear c3); (try clear c3b0); (try clear c3b1); (try clear c4); (try clear c4b0); (try clear c4b1); (try clear p5); (try clear q5); (try clear hx5); (try clear qi5); (try clear c6); (try clear c7); (try clear c7b0); (try clear c7b1); (try clear p8); (try clear q8); (try clear hx8); (try clear qi8); (try clear c10); (try clear c10b0); (try clear c10b1); (try clear p2); (try clear p5); (try clear p8); (try clear q5); (try clear q8); (obtain ⟨kq, x20_8, rfl, HA, HJ8, HB⟩ := hcut)
      cases kq with
      | zero => exact absurd HA.out (by simp [arboristref01_escape.j1])
      | succ kj8 =>
       (have H := HA.out); clear HA; (simp only [arboristref01_escape.j1] at H); (by_cases c11 : x20_8 = true)
       ·subst c11
        (have H1 : (if 0 ≤ 1 then (if 1 ≤ (a0.size : Int) then (some (a0.extract 0 1, 1, 0)) else (none)) else (none)) = some (r1, r2, r3) := by rw [if_pos rfl] at H; exact H); clear H; (have H := H1); clear H1; (by_cases c12 : 0 ≤ 1)
        ·rw [if_pos c12] at H
         (have c12b0 := eq_true c12); (have c12b1 : decide (0 ≤ 1) = true := decide_eq_true c12); clear c12; (by_cases c13 : 1 ≤ (a0.size : Int))
         ·rw [if_pos c13] at H
          (have c13b0 := eq_true c13); (have c13b1 : decide (1 ≤ (a0.size : Int)) = true := decide_eq_true c13); clear c13; (simp only [Option.some.injEq, Prod.mk.injEq] at H); (obtain ⟨rfl, rfl, rfl⟩ := H); go_wp2; (go_ret3); (exact ⟨by first | rfl | (simp [errW_none, errW_some] <;> rfl) | (simp [*, errW_none, errW_some] <;> rfl), by repeat (first | (with_reducible first | exact HB.out | apply qA | apply qN | apply qD) | exact HB.out)⟩)
         ·rw [if_neg c13] at H
          exact absurd H (by simp)
        ·rw [if_neg c12] at H
         exact absurd H (by simp)
       ·replace c11 := Bool.eq_false_iff.mpr c11
        subst c11
        have H1 : (if (bt a0 0) = 110 then (some ((⟨#[10]⟩ : ByteArray), 1, 0)) else (if (bt a0 0) = 114 then (some ((⟨#[13]⟩ : ByteArray), 1, 0)) else (if (bt a0 0) = 116 then (some ((⟨#[9]⟩ : ByteArray), 1, 0)) else (if (bt a0 0) = 120 then (if (a0.size : Int) > 1 then (if 1 < (a0.size : Int) then (if (bt a0 1) = 10 then (some ((⟨#[]⟩ : ByteArray), 0, 13)) else (if 1 ≤ (a0.size : Int) then ((arboristref01_braced.f kj8 (a0.extract 1 a0.size) 2 2).bind fun bt215 => (some (strOfNums (([(bt215.1) % 256] : List Int)), wrap64 (1 + bt215.2.1), bt215.2.2))) else (none))) else (none)) else (if 1 ≤ (a0.size : Int) then ((arboristref01_braced.f kj8 (a0.extract 1 a0.size) 2 2).bind fun bt221 => (some (strOfNums (([(bt221.1) % 256] : List Int)), wrap64 (1 + bt221.2.1), bt221.2.2))) else (none))) else (if (bt a0 0) = 117 then (if (a0.size : Int) > 1 then (if 1 < (a0.size : Int) then (arboristref01_escape.j2 kj8 a0 ((bt a0 1) == 10)) else (none)) else (arboristref01_escape.j2 kj8 a0 false)) else (some ((⟨#[]⟩ : ByteArray), 0, 3))))))) = some (r1, r2, r3) := by rw [if_neg (show ¬ (false = true) by decide)] at H; exact H
        clear H; (have H := H1); clear H1; (by_cases c14 : (bt a0 0) = 110)
        ·rw [if_pos c14] at H
         (have c14b0 : ((bt a0 0) == 110) = true := beq_iff_eq.mpr c14); (have c14b1 : ((bt a0 0) != 110) = false := bne_eq_false_iff_eq.mpr c14); clear c14; (simp only [Option.some.injEq, Prod.mk.injEq] at H); (obtain ⟨rfl, rfl, rfl⟩ := H); go_wp2; (go_ret3); (exact ⟨by first | rfl | (simp [errW_none, errW_some] <;> rfl) | (simp [*, errW_none, errW_some] <;> rfl), by repeat (first | (with_reducible first | exact HB.out | apply qA | apply qN | apply qD) | exact HB.out)⟩)
        ·rw [if_neg c14] at H
         (have c14b0 : ((bt a0 0) == 110) = false := beq_eq_false_iff_ne.mpr c14); (have c14b1 : ((bt a0 0) != 110) = true := bne_iff_ne.mpr c14); (by_cases c15 : (bt a0 0) = 114)
         ·rw [if_pos c15] at H
          (have c15b0 : ((bt a0 0) == 114) = true := beq_iff_eq.mpr c15); (have c15b1 : ((bt a0 0) != 114) = false := bne_eq_false_iff_eq.mpr c15); clear c15; (simp only [Option.some.injEq, Prod.mk.injEq] at H); (obtain ⟨rfl, rfl, rfl⟩ := H); go_wp2; (go_ret3); (exact ⟨by first | rfl | (simp [errW_none, errW_some] <;> rfl) | (simp [*, errW_none, errW_some] <;> rfl), by repeat (first | (with_reducible first | exact HB.out | apply qA | apply qN | apply qD) | exact HB.out)⟩)
         ·rw [if_neg c15] at H
          (have c15b0 : ((bt a0 0) == 114) = false := beq_eq_false_iff_ne.mpr c15); (have c15b1 : ((bt a0 0) != 114) = true := bne_iff_ne.mpr c15); (by_cases c16 : (bt a0 0) = 116)
          ·rw [if_pos c16] at H
           (have c16b0 : ((bt a0 0) == 116) = true := beq_iff_eq.mpr c16); (have c16b1 : ((bt a0 0) != 116) = false := bne_eq_false_iff_eq.mpr c16); clear c16; (simp only [Option.some.injEq, Prod.mk.injEq] at H); (obtain ⟨rfl, rfl, rfl⟩ := H); go_wp2; (go_ret3); (exact ⟨by first | rfl | (simp [errW_none, errW_some] <;> rfl) | (simp [*, errW_none, errW_some] <;> rfl), by repeat (first | (with_reducible first | exact HB.out | apply qA | apply qN | apply qD) | exact HB.out)⟩)
          ·rw [if_neg c16] at H
           (have c16b0 : ((bt a0 0) == 116) = false := beq_eq_false_iff_ne.mpr c16); (have c16b1 : ((bt a0 0) != 116) = true := bne_iff_ne.mpr c16); (by_cases c17 : (bt a0 0) = 120)
           ·rw [if_pos c17] at H
            (have c17b0 : ((bt a0 0) == 120) = true := beq_iff_eq.mpr c17); (have c17b1 : ((bt a0 0) != 120) = false := bne_eq_false_iff_eq.mpr c17); clear c17; (by_cases c18 : (a0.size : Int) > 1)
            ·rw [if_pos c18] at H
             (have c18b0 : decide (1 < (a0.size : Int)) = true := decide_eq_true c18); (have c18b1 : decide (1 < a0.size) = true := decide_eq_true (by omega)); clear c18; (by_cases c19 : 1 < (a0.size : Int))
             ·rw [if_pos c19] at H
              (have c19b0 : decide (1 < (a0.size : Int)) = true := decide_eq_true c19); (have c19b1 : decide (1 < a0.size) = true := decide_eq_true (by omega)); clear c19; (by_cases c21 : (bt a0 1) = 10)
              ·rw [if_pos c21] at H
               (have c21b0 : ((bt a0 1) == 10) = true := beq_iff_eq.mpr c21); (have c21b1 : ((bt a0 1) != 10) = false := bne_eq_false_iff_eq.mpr c21); clear c21; (simp only [Option.some.injEq, Prod.mk.injEq] at H); (obtain ⟨rfl, rfl, rfl⟩ := H); (have p20 : 0 ≤ (1 : Int) := (by omega)); (have q20 : 1 < a0.size := (by have : (1 : Int) < (a0.size : Int) := qo (by first | (with_reducible assumption) | assumption); omega)); (have hx20 : ∀ h : 1 < a0.size, ((a0[1]'h).toNat : Int) = bt a0 1 := bt_at a0 1); clear p20; (have qi20 : (1 < (a0.size : Int)) = True := eq_true (qo (by first | (with_reducible assumption) | assumption))); (replace q20 := eq_true q20); go_wp2; (go_ret3); (exact ⟨by first | rfl | (simp [errW_none, errW_some] <;> rfl) | (simp [*, errW_none, errW_some] <;> rfl), by repeat (first | (with_reducible first | exact HB.out | apply qA | apply qN | apply qD) | exact HB.out)⟩)
              ·rw [if_neg c21] at H
               (have c21b0 : ((bt a0 1) == 10) = false := beq_eq_false_iff_ne.mpr c21); (have c21b1 : ((bt a0 1) != 10) = true := bne_iff_ne.mpr c21); (by_cases c22 : 1 ≤ (a0.size : Int))
               ·rw [if_pos c22] at H
                (have c22b0 := eq_true c22); (have c22b1 : decide (1 ≤ (a0.size : Int)) = true := decide_eq_true c22); clear c22; (replace H := Option.bind_eq_some_iff.mp H); (obtain ⟨⟨t215, t216, t217⟩, A230, H⟩ := H); (replace H : (some (strOfNums (([(t215) % 256] : List Int)), wrap64 (1 + t216), t217)) = some (r1, r2, r3) := H); (have A23 := qM A230); clear A230; (obtain ⟨y218, hy218⟩ : ∃ y_ : List Int, y_ = (([(t215) % 256] : List Int)) := ⟨_, rfl⟩); (replace H : (some (strOfNums y218, wrap64 (1 + t216), t217)) = some (r1, r2, r3) := by first | (rw [hy218]; with_reducible exact H) | (have H2_ := (Option.bind_some _ _).symm.trans H; rw [hy218]; with_reducible exact H2_) | (have H2_ := (Option.bind_some _ _).symm.trans H; with_reducible exact H2_) | with_reducible exact H | (rw [hy218]; exact H) | exact H); (have Ny218 := qM hy218); clear hy218; (simp only [Option.some.injEq, Prod.mk.injEq] at H); (obtain ⟨rfl, rfl, rfl⟩ := H); (have p20 : 0 ≤ (1 : Int) := (by omega)); (have q20 : 1 < a0.size := (by have : (1 : Int) < (a0.size : Int) := qo (by first | (with_reducible assumption) | assumption); omega)); (have hx20 : ∀ h : 1 < a0.size, ((a0[1]'h).toNat : Int) = bt a0 1 := bt_at a0 1); clear p20; (have qi20 : (1 < (a0.size : Int)) = True := eq_true (qo (by first | (with_reducible assumption) | assumption))); (replace q20 := eq_true q20)
                go_wp2_with (first | ((with_reducible refine gate_callee (f := 54) rfl ?_); refine goesL_ (some 44) rfl rfl Tryd.func54 (by kernel_rfl) rfl #[.string (a0.extract 1 a0.size), .int .i64 2, .int .i64 2] rfl (by (try simp only [List.map_toArray, List.map_cons, List.map_nil]); first | done | rfl | (simp only [List.length_drop, List.length_take]; rfl)) ?_; (with_reducible refine (arboristref01_braced.calls kj8 (a0.extract 1 a0.size) 2 2 t215 t216 t217 _ A23.out).mono ?_); rintro e w' ⟨rfl, ⟨nd, rfl⟩⟩; refine ⟨_, rfl, ?_⟩) | ((with_reducible refine gate_dst (N := 50) rfl ?_); refine Kd.R_lit (Kd.int .u8) _ 5 ?hg (N := 50) ?hd (xs := ([(t215) % 256] : List Int)) (inner := [.int .u8 ((t215) % 256)]) (ok := fun _ => True) (okp := fun _ => True) ?hr ?hp (fun _ hk => hk) trivial (Below.refl _ _) (Nat.le_refl _) (by simp) ?_; (case hd => rfl); (case hg => rfl); (case hr => first | (go_simp; done) | (go_simp; rfl)); (case hp => exact (Reps.one (show Kd.M (Kd.int .u8) _ _ _ ((t215) % 256) [.int .u8 ((t215) % 256)] from rfl) (Reps.none _ _))); intro v219 w24 ho25 hb hg_ hnew_; clear hg_ hnew_; (first | rw [← Ny218.out] at ho25 | (simp only [Int.reduceToNat] at ho25; rw [← Ny218.out] at ho25)); have n0_ := qM (Kd.R_lower ho25 (qZ (by repeat (first | (with_reducible first | exact HB.out | apply qA | apply qN | apply qD) | exact HB.out)))); have n1_ := qM (qP (by repeat (first | (with_reducible first | exact HB.out | apply qA | apply qN | apply qD) | exact HB.out)) hb); clear HB; have HO220 := n0_; have HB := n1_; clear n0_ n1_; clear hb ho25; have hcv26 := own_string (P := Tryd.prog) Tryd.underlying52 Tryd.underlying5 Tryd.underlying9 (Kd.own_of_R HO220.out)))
                (go_ret3); (exact ⟨by first | rfl | (simp [errW_none, errW_some] <;> rfl) | (simp [*, errW_none, errW_some] <;> rfl), by repeat (first | (with_reducible first | exact HB.out | apply qA | apply qN | apply qD) | exact HB.out)⟩)
               ·rw [if_neg c22] at H
                exact absurd H (by simp)
             ·rw [if_neg c19] at H
              exact absurd H (by simp)
            ·rw [if_neg c18] at H
             (have c18b0 : decide (1 < (a0.size : Int)) = false := decide_eq_false c18); (have c18b1 : decide (1 < a0.size) = false := decide_eq_false (by omega)); clear c18; (by_cases c27 : 1 ≤ (a0.size : Int))
             ·rw [if_pos c27] at H
              (have c27b0 := eq_true c27); (have c27b1 : decide (1 ≤ (a0.size : Int)) = true := decide_eq_true c27); clear c27; (replace H := Option.bind_eq_some_iff.mp H); (obtain ⟨⟨t221, t222, t223⟩, A280, H⟩ := H); (replace H : (some (strOfNums (([(t221) % 256] : List Int)), wrap64 (1 + t222), t223)) = some (r1, r2, r3) := H); (have A28 := qM A280); clear A280; (obtain ⟨y224, hy224⟩ : ∃ y_ : List Int, y_ = (([(t221) % 256] : List Int)) := ⟨_, rfl⟩); (replace H : (some (strOfNums y224, wrap64 (1 + t222), t223)) = some (r1, r2, r3) := by first | (rw [hy224]; with_reducible exact H) | (have H2_ := (Option.bind_some _ _).symm.trans H; rw [hy224]; with_reducible exact H2_) | (have H2_ := (Option.bind_some _ _).symm.trans H; with_reducible exact H2_) | with_reducible exact H | (rw [hy224]; exact H) | exact H); (have Ny224 := qM hy224); clear hy224; (simp only [Option.some.injEq, Prod.mk.injEq] at H); (obtain ⟨rfl, rfl, rfl⟩ := H)
              go_wp2_with (first | ((with_reducible refine gate_callee (f := 54) rfl ?_); refine goesL_ (some 44) rfl rfl Tryd.func54 (by kernel_rfl) rfl #[.string (a0.extract 1 a0.size), .int .i64 2, .int .i64 2] rfl (by (try simp only [List.map_toArray, List.map_cons, List.map_nil]); first | done | rfl | (simp only [List.length_drop, List.length_take]; rfl)) ?_; (with_reducible refine (arboristref01_braced.calls kj8 (a0.extract 1 a0.size) 2 2 t221 t222 t223 _ A28.out).mono ?_); rintro e w' ⟨rfl, ⟨nd, rfl⟩⟩; refine ⟨_, rfl, ?_⟩) | ((with_reducible refine gate_dst (N := 50) rfl ?_); refine Kd.R_lit (Kd.int .u8) _ 5 ?hg (N := 50) ?hd (xs := ([(t221) % 256] : List Int)) (inner := [.int .u8 ((t221) % 256)]) (ok := fun _ => True) (okp := fun _ => True) ?hr ?hp (fun _ hk => hk) trivial (Below.refl _ _) (Nat.le_refl _) (by simp) ?_; (case hd => rfl); (case hg => rfl); (case hr => first | (go_simp; done) | (go_simp; rfl)); (case hp => exact (Reps.one (show Kd.M (Kd.int .u8) _ _ _ ((t221) % 256) [.int .u8 ((t221) % 256)] from rfl) (Reps.none _ _))); intro v225 w29 ho30 hb hg_ hnew_; clear hg_ hnew_; (first | rw [← Ny224.out] at ho30 | (simp only [Int.reduceToNat] at ho30; rw [← Ny224.out] at ho30)); have n0_ := qM (Kd.R_lower ho30 (qZ (by repeat (first | (with_reducible first | exact HB.out | apply qA | apply qN | apply qD) | exact HB.out)))); have n1_ := qM (qP (by repeat (first | (with_reducible first | exact HB.out | apply qA | apply qN | apply qD) | exact HB.out)) hb); clear HB; have HO226 := n0_; have HB := n1_; clear n0_ n1_; clear hb ho30; have hcv31 := own_string (P := Tryd.prog) Tryd.underlying52 Tryd.underlying5 Tryd.underlying9 (Kd.own_of_R HO226.out)))
              (go_ret3); (exact ⟨by first | rfl | (simp [errW_none, errW_some] <;> rfl) | (simp [*, errW_none, errW_some] <;> rfl), by repeat (first | (with_reducible first | exact HB.out | apply qA | apply qN | apply qD) | exact HB.out)⟩)
             ·rw [if_neg c27] at H
              exact absurd H (by simp)
           ·rw [if_neg c17] at H
            (have c17b0 : ((bt a0 0) == 120) = false := beq_eq_false_iff_ne.mpr c17); (have c17b1 : ((bt a0 0) != 120) = true := bne_iff_ne.mpr c17); (by_cases c32 : (bt a0 0) = 117)
            ·rw [if_pos c32] at H
             (have c32b0 : ((bt a0 0) == 117) = true := beq_iff_eq.mpr c32); (have c32b1 : ((bt a0 0) != 117) = false := bne_eq_false_iff_eq.mpr c32); clear c32; (have HC33 := qM H); clear H; (go_upto_region 19 with (fail)); (go_cut [64] (fun v64 wc => ∃ (kq : Nat) (x64_32 : Bool), v64 = .bool x64_32 ∧ Aside0 (arboristref01_escape.j2 kq a0 x64_32 = some (r1, r2, r3)) ∧ Aside0 (kq ≤ kj8) ∧ Aside0 (Below w.heap.size w wc)))
             case first =>
              (have H := HC33.out); clear HC33; (by_cases c34 : (a0.size : Int) > 1)
              ·rw [if_pos c34] at H
               (have c34b0 : decide (1 < (a0.size : Int)) = true := decide_eq_true c34); (have c34b1 : decide (1 < a0.size) = true := decide_eq_true (by omega)); clear c34; ((first | rw [c34b0] | (simp only [i64_w, i32_w]; rw [c34b0]) | skip)); (by_cases c35 : 1 < (a0.size : Int))
               ·rw [if_pos c35] at H
                (have c35b0 : decide (1 < (a0.size : Int)) = true := decide_eq_true c35); (have c35b1 : decide (1 < a0.size) = true := decide_eq_true (by omega)); clear c35; (have H' := qM H); clear H; (have p36 : 0 ≤ (1 : Int) := (by omega)); (have q36 : 1 < a0.size := (by have : (1 : Int) < (a0.size : Int) := qo (by first | (with_reducible assumption) | assumption); omega)); (have hx36 : ∀ h : 1 < a0.size, ((a0[1]'h).toNat : Int) = bt a0 1 := bt_at a0 1); clear p36; (have qi36 : (1 < (a0.size : Int)) = True := eq_true (qo (by first | (with_reducible assumption) | assumption))); (replace q36 := eq_true q36); go_wp2; go_meet
                case rel => exact ⟨_, (((bt a0 1) == 10)), (by first | rfl | (simp; done) | (simp [*]; done)), H', ⟨by have := HJ1.out; have := HJ8.out; first | omega | exact Nat.le_refl _⟩, ⟨by repeat (first | (with_reducible first | exact HB.out | apply qA | apply qN | apply qD) | exact HB.out)⟩⟩
               ·rw [if_neg c35] at H
                exact absurd H (by simp)
              ·rw [if_neg c34] at H
               (have c34b0 : decide (1 < (a0.size : Int)) = false := decide_eq_false c34); (have c34b1 : decide (1 < a0.size) = false := decide_eq_false (by omega)); clear c34; ((first | rw [c34b0] | (simp only [i64_w, i32_w]; rw [c34b0]) | skip)); (have H' := qM H); clear H; go_wp2; go_meet
               case rel => exact ⟨_, (false), (by first | rfl | (simp; done) | (simp [*]; done)), H', ⟨by have := HJ1.out; have := HJ8.out; first | omega | exact Nat.le_refl _⟩, ⟨by repeat (first | (with_reducible first | exact HB.out | apply qA | apply qN | apply qD) | exact HB.out)⟩⟩
             case rest =>
              clear HC33; (try clear c1); (try clear c2); (try clear p2); (try clear q2); (try clear hx2); (try clear hcv2); (try clear qi2); (try clear c3); (try clear c3b0); (try clear c3b1); (try clear p3); (try clear q3); (try clear hx3); (try clear hcv3); (try clear qi3); (try clear c4); (try clear c4b0); (try clear c4b1); (try clear c5); (try clear p5); (try clear q5); (try clear hx5); (try clear qi5); (try clear c6); (try clear p6); (try clear c7); (try clear c7b0); (try clear c7b1); (try clear p8); (try clear q8); (try clear hx8); (try clear qi8); (try clear c10); (try clear c10b0); (try clear c10b1); (try clear c11); (try clear c12); (try clear c12b0); (try clear c12b1); (try clear c13); (try clear c13b0); (try clear c13b1); (try clear c14); (try clear c14b0); (try clear c14b1); (try clear c15); (try clear c15b0); (try clear c15b1); (try clear c16); (try clear c16b0); (try clear c16b1); (try clear c17); (try clear c17b0); (try clear c17b1); (try clear c18); (try clear c18b0); (try clear c18b1); (try clear c19); (try clear c19b0); (try clear c19b1); (try clear p20); (try clear q20); (try clear hx20); (try clear qi20); (try clear c21); (try clear c21b0); (try clear c21b1); (try clear c22); (try clear c22b0); (try clear c22b1); (try clear hcv26); (try clear c27); (try clear c27b0); (try clear c27b1); (try clear hcv31); (try clear c32); (try clear c32b0); (try clear c32b1); (try clear c34); (try clear c34b0); (try clear c34b1); (try clear c35); (try clear c35b0); (try clear c35b1); (try clear p36); (try clear q36); (try clear hx36); (try clear qi36); (try clear p2); (try clear p20); (try clear p36); (try clear p5); (try clear p8); (try clear q20); (try clear q36); (try clear q5); (try clear q8); (obtain ⟨kq, x64_32, rfl, HA, HJ32, HB⟩ := hcut)
              cases kq with
              | zero => exact absurd HA.out (by simp [arboristref01_escape.j2])
              | succ kj32 =>
               (have H := HA.out); clear HA; (simp only [arboristref01_escape.j2] at H); (by_cases c37 : x64_32 = true)
               ·subst c37
                (have H1 : (some ((⟨#[]⟩ : ByteArray), 0, 13)) = some (r1, r2, r3) := by rw [if_pos rfl] at H; exact H); clear H; (have H := H1); clear H1; (simp only [Option.some.injEq, Prod.mk.injEq] at H); (obtain ⟨rfl, rfl, rfl⟩ := H); go_wp2; (go_ret3); (exact ⟨by first | rfl | (simp [errW_none, errW_some] <;> rfl) | (simp [*, errW_none, errW_some] <;> rfl), by repeat (first | (with_reducible first | exact HB.out | apply qA | apply qN | apply qD) | exact HB.out)⟩)
               ·replace c37 := Bool.eq_false_iff.mpr c37
                subst c37
                have H1 : (if 1 ≤ (a0.size : Int) then ((arboristref01_braced.f kj32 (a0.extract 1 a0.size) 1 6).bind fun bt227 => (if bt227.2.2 = 0 then (if bt227.1 > 1114111 then (some ((Utf8.encode (wrap32 (bt227.1))), wrap64 (1 + bt227.2.1), 3)) else (if bt227.1 ≥ 55296 then (if bt227.1 ≤ 57343 then (some ((Utf8.encode (wrap32 (bt227.1))), wrap64 (1 + bt227.2.1), 3)) else (some ((Utf8.encode (wrap32 (bt227.1))), wrap64 (1 + bt227.2.1), bt227.2.2))) else (some ((Utf8.encode (wrap32 (bt227.1))), wrap64 (1 + bt227.2.1), bt227.2.2)))) else (some ((Utf8.encode (wrap32 (bt227.1))), wrap64 (1 + bt227.2.1), bt227.2.2)))) else (none)) = some (r1, r2, r3) := by rw [if_neg (show ¬ (false = true) by decide)] at H; exact H
                clear H; (have H := H1); clear H1; (by_cases c38 : 1 ≤ (a0.size : Int))
                ·rw [if_pos c38] at H
                 (have c38b0 := eq_true c38); (have c38b1 : decide (1 ≤ (a0.size : Int)) = true := decide_eq_true c38); clear c38; (replace H := Option.bind_eq_some_iff.mp H); (obtain ⟨⟨t227, t228, t229⟩, A390, H⟩ := H); (replace H : (if t229 = 0 then (if t227 > 1114111 then (some ((Utf8.encode (wrap32 (t227))), wrap64 (1 + t228), 3)) else (if t227 ≥ 55296 then (if t227 ≤ 57343 then (some ((Utf8.encode (wrap32 (t227))), wrap64 (1 + t228), 3)) else (some ((Utf8.encode (wrap32 (t227))), wrap64 (1 + t228), t229))) else (some ((Utf8.encode (wrap32 (t227))), wrap64 (1 + t228), t229)))) else (some ((Utf8.encode (wrap32 (t227))), wrap64 (1 + t228), t229))) = some (r1, r2, r3) := H); (have A39 := qM A390); clear A390; (by_cases c40 : t229 = 0)
                 ·rw [if_pos c40] at H
                  (have c40b0 : (t229 == 0) = true := beq_iff_eq.mpr c40); (have c40b1 : (t229 != 0) = false := bne_eq_false_iff_eq.mpr c40); clear c40; (by_cases c41 : t227 > 1114111)
                  ·rw [if_pos c41] at H
                   (have c41b0 : decide (1114111 < t227) = true := decide_eq_true c41); clear c41; (simp only [Option.some.injEq, Prod.mk.injEq] at H); (obtain ⟨rfl, rfl, rfl⟩ := H); (go_wp2_with (first | ((with_reducible refine gate_callee (f := 54) rfl ?_); refine goesL_ (some 68) rfl rfl Tryd.func54 (by kernel_rfl) rfl #[.string (a0.extract 1 a0.size), .int .i64 1, .int .i64 6] rfl (by (try simp only [List.map_toArray, List.map_cons, List.map_nil]); first | done | rfl | (simp only [List.length_drop, List.length_take]; rfl)) ?_; (with_reducible refine (arboristref01_braced.calls kj32 (a0.extract 1 a0.size) 1 6 t227 t228 t229 _ A39.out).mono ?_); rintro e w' ⟨rfl, ⟨nd, rfl⟩⟩; refine ⟨_, rfl, ?_⟩))); (go_ret3); (exact ⟨by first | rfl | (simp [errW_none, errW_some] <;> rfl) | (simp [*, errW_none, errW_some] <;> rfl), by repeat (first | (with_reducible first | exact HB.out | apply qA | apply qN | apply qD) | exact HB.out)⟩)
                  ·rw [if_neg c41] at H
                   (have c41b0 : decide (1114111 < t227) = false := decide_eq_false c41); clear c41; (by_cases c42 : t227 ≥ 55296)
                   ·rw [if_pos c42] at H
                    (have c42b0 : decide (55296 ≤ t227) = true := decide_eq_true c42); clear c42; (by_cases c43 : t227 ≤ 57343)
                    ·rw [if_pos c43] at H
                     (have c43b0 : decide (t227 ≤ 57343) = true := decide_eq_true c43); clear c43; (simp only [Option.some.injEq, Prod.mk.injEq] at H); (obtain ⟨rfl, rfl, rfl⟩ := H); (go_wp2_with (first | ((with_reducible refine gate_callee (f := 54) rfl ?_); refine goesL_ (some 68) rfl rfl Tryd.func54 (by kernel_rfl) rfl #[.string (a0.extract 1 a0.size), .int .i64 1, .int .i64 6] rfl (by (try simp only [List.map_toArray, List.map_cons, List.map_nil]); first | done | rfl | (simp only [List.length_drop, List.length_take]; rfl)) ?_; (with_reducible refine (arboristref01_braced.calls kj32 (a0.extract 1 a0.size) 1 6 t227 t228 t229 _ A39.out).mono ?_); rintro e w' ⟨rfl, ⟨nd, rfl⟩⟩; refine ⟨_, rfl, ?_⟩))); (go_ret3); (exact ⟨by first | rfl | (simp [errW_none, errW_some] <;> rfl) | (simp [*, errW_none, errW_some] <;> rfl), by repeat (first | (with_reducible first | exact HB.out | apply qA | apply qN | apply qD) | exact HB.out)⟩)
                    ·rw [if_neg c43] at H
                     (have c43b0 : decide (t227 ≤ 57343) = false := decide_eq_false c43); clear c43; (simp only [Option.some.injEq, Prod.mk.injEq] at H); (obtain ⟨rfl, rfl, rfl⟩ := H); (go_wp2_with (first | ((with_reducible refine gate_callee (f := 54) rfl ?_); refine goesL_ (some 68) rfl rfl Tryd.func54 (by kernel_rfl) rfl #[.string (a0.extract 1 a0.size), .int .i64 1, .int .i64 6] rfl (by (try simp only [List.map_toArray, List.map_cons, List.map_nil]); first | done | rfl | (simp only [List.length_drop, List.length_take]; rfl)) ?_; (with_reducible refine (arboristref01_braced.calls kj32 (a0.extract 1 a0.size) 1 6 t227 t228 t229 _ A39.out).mono ?_); rintro e w' ⟨rfl, ⟨nd, rfl⟩⟩; refine ⟨_, rfl, ?_⟩))); (go_ret3); (exact ⟨by first | rfl | (simp [errW_none, errW_some] <;> rfl) | (simp [*, errW_none, errW_some] <;> rfl), by repeat (first | (with_reducible first | exact HB.out | apply qA | apply qN | apply qD) | exact HB.out)⟩)
                   ·rw [if_neg c42] at H
                    (have c42b0 : decide (55296 ≤ t227) = false := decide_eq_false c42); clear c42; (simp only [Option.some.injEq, Prod.mk.injEq] at H); (obtain ⟨rfl, rfl, rfl⟩ := H); (go_wp2_with (first | ((with_reducible refine gate_callee (f := 54) rfl ?_); refine goesL_ (some 68) rfl rfl Tryd.func54 (by kernel_rfl) rfl #[.string (a0.extract 1 a0.size), .int .i64 1, .int .i64 6] rfl (by (try simp only [List.map_toArray, List.map_cons, List.map_nil]); first | done | rfl | (simp only [List.length_drop, List.length_take]; rfl)) ?_; (with_reducible refine (arboristref01_braced.calls kj32 (a0.extract 1 a0.size) 1 6 t227 t228 t229 _ A39.out).mono ?_); rintro e w' ⟨rfl, ⟨nd, rfl⟩⟩; refine ⟨_, rfl, ?_⟩))); (go_ret3); (exact ⟨by first | rfl | (simp [errW_none, errW_some] <;> rfl) | (simp [*, errW_none, errW_some] <;> rfl), by repeat (first | (with_reducible first | exact HB.out | apply qA | apply qN | apply qD) | exact HB.out)⟩)
                 ·rw [if_neg c40] at H
                  (have c40b0 : (t229 == 0) = false := beq_eq_false_iff_ne.mpr c40); (have c40b1 : (t229 != 0) = true := bne_iff_ne.mpr c40); (simp only [Option.some.injEq, Prod.mk.injEq] at H); (obtain ⟨rfl, rfl, rfl⟩ := H); (go_wp2_with (first | ((with_reducible refine gate_callee (f := 54) rfl ?_); refine goesL_ (some 68) rfl rfl Tryd.func54 (by kernel_rfl) rfl #[.string (a0.extract 1 a0.size), .int .i64 1, .int .i64 6] rfl (by (try simp only [List.map_toArray, List.map_cons, List.map_nil]); first | done | rfl | (simp only [List.length_drop, List.length_take]; rfl)) ?_; (with_reducible refine (arboristref01_braced.calls kj32 (a0.extract 1 a0.size) 1 6 t227 t228 t229 _ A39.out).mono ?_); rintro e w' ⟨rfl, ⟨nd, rfl⟩⟩; refine ⟨_, rfl, ?_⟩))); (go_ret3); (exact ⟨by first | rfl | (simp [errW_none, errW_some] <;> rfl) | (simp [*, errW_none, errW_some] <;> rfl), by repeat (first | (with_reducible first | exact HB.out | apply qA | apply qN | apply qD) | exact HB.out)⟩)
                ·rw [if_neg c38] at H
                 exact absurd H (by simp)
            ·rw [if_neg c32] at H
             (have c32b0 : ((bt a0 0) == 117) = false := beq_eq_false_iff_ne.mpr c32); (have c32b1 : ((bt a0 0) != 117) = true := bne_iff_ne.mpr c32); (simp only [Option.some.injEq, Prod.mk.injEq] at H); (obtain ⟨rfl, rfl, rfl⟩ := H); go_wp2; (go_ret3); (exact ⟨by first | rfl | (simp [errW_none, errW_some] <;> rfl) | (simp [*, errW_none, errW_some] <;> rfl), by repeat (first | (with_reducible first | exact HB.out | apply qA | apply qN | apply qD) | exact HB.out)⟩)
    ·rw [if_neg c7] at H
     exact absurd H (by simp)
mutual
def arboristref01_Unquote.j0 : Nat → ByteArray → Bool → Option (ByteArray × Int × Int)
 | 0, _, _ => none
 | k + 1, x0, x18 => if x18 = true then (some ((⟨#[]⟩ : ByteArray), 0, 3)) else (arboristref01_Unquote.l0 k x0 (⟨#[]⟩ : ByteArray) 1)
def arboristref01_Unquote.l0 : Nat → ByteArray → ByteArray → Int → Option (ByteArray × Int × Int)
 | 0, _, _, _ => none
 | k + 1, x0, x5, x6 => if x6 < (x0.size : Int) then (if 0 ≤ x6 then (if x6 ≤ (x0.size : Int) then ((arboristref01_one.f (x0.extract (x6 : Int).toNat x0.size)).bind fun bt230 => (if bt230.1 = 34 then (some (x5, wrap64 (x6 + 1), 0)) else (if bt230.1 = 10 then (some ((⟨#[]⟩ : ByteArray), 0, 13)) else (if bt230.1 = 92 then (if 0 ≤ (wrap64 (x6 + 1)) then (if (wrap64 (x6 + 1)) ≤ (x0.size : Int) then ((arboristref01_escape.f k (x0.extract ((wrap64 (x6 + 1)) : Int).toNat x0.size)).bind fun bt232 => (if bt232.2.2 = 0 then (if x5.size + bt232.1.size ≤ 9223372036854775807 then (arboristref01_Unquote.l0 k x0 (x5 ++ bt232.1) (wrap64 (x6 + (wrap64 (1 + bt232.2.1))))) else (none)) else (some ((⟨#[]⟩ : ByteArray), 0, bt232.2.2)))) else (none)) else (none)) else (if bt230.1 < 32 then (some ((⟨#[]⟩ : ByteArray), 0, 3)) else (if bt230.1 = 127 then (some ((⟨#[]⟩ : ByteArray), 0, 3)) else ((arboristref01_Invalid.f bt230.1 0 bt230.2).bind fun t235 => (if t235 = true then (some ((⟨#[]⟩ : ByteArray), 0, 3)) else (if x6 ≤ (wrap64 (x6 + bt230.2)) then (if (wrap64 (x6 + bt230.2)) ≤ (x0.size : Int) then (if x5.size + (x0.extract (x6 : Int).toNat ((wrap64 (x6 + bt230.2)) : Int).toNat).size ≤ 9223372036854775807 then (arboristref01_Unquote.l0 k x0 (x5 ++ (x0.extract (x6 : Int).toNat ((wrap64 (x6 + bt230.2)) : Int).toNat)) (wrap64 (x6 + bt230.2))) else (none)) else (none)) else (none)))))))))) else (none)) else (none)) else (some ((⟨#[]⟩ : ByteArray), 0, 13))
end
def arboristref01_Unquote.f (k : Nat) (a0 : ByteArray) : Option (ByteArray × Int × Int) := if a0.toList = ([] : List UInt8) then (arboristref01_Unquote.j0 k a0 true) else (if 0 < (a0.size : Int) then (arboristref01_Unquote.j0 k a0 ((bt a0 0) != 34)) else (none))
set_option maxHeartbeats 8000000 in
set_option maxRecDepth 100000 in
theorem arboristref01_Unquote.calls (k : Nat) (a0 : ByteArray) (r1 : ByteArray) (r2 : Int) (r3 : Int) (w : World) (h : arboristref01_Unquote.f k a0 = some (r1, r2, r3)) :
  Calls Tryd.prog 21 #[.string a0] w fun e w' => e = .returned (.tuple #[.string r1, .int .i64 r2, .int .i64 r3]) ∧ Below w.heap.size w w' := by
 (have hu41 := Tryd.underlying41); (have HB := qM (Below.refl w.heap.size w)); (have H : (if a0.toList = ([] : List UInt8) then (arboristref01_Unquote.j0 k a0 true) else (if 0 < (a0.size : Int) then (arboristref01_Unquote.j0 k a0 ((bt a0 0) != 34)) else (none))) = some (r1, r2, r3) := h); clear h; (have HC2 := qM H); clear H; (go_enter Tryd.func21, Tryd.ntmps21); (go_upto_region 1 with (fail)); (go_cut [18] (fun v18 wc => ∃ (kq : Nat) (x18_1 : Bool), v18 = .bool x18_1 ∧ Aside0 (arboristref01_Unquote.j0 kq a0 x18_1 = some (r1, r2, r3)) ∧ Aside0 (kq ≤ k) ∧ Aside0 (Below w.heap.size w wc)))
 case first =>
  (have H := HC2.out); clear HC2; (by_cases c3 : a0.toList = ([] : List UInt8))
  ·rw [if_pos c3] at H
   (have c3b0 : (a0.toList == ([] : List UInt8)) = true := beq_iff_eq.mpr c3); (have c3b1 : (a0.toList != ([] : List UInt8)) = false := bne_eq_false_iff_eq.mpr c3); clear c3; ((first | rw [c3b0] | (simp only [i64_w, i32_w]; rw [c3b0]) | skip)); (have H' := qM H); clear H; go_wp2; go_meet
   case rel => exact ⟨_, (true), (by first | rfl | (simp; done) | (simp [*]; done)), H', ⟨by first | omega | exact Nat.le_refl _⟩, ⟨by repeat (first | (with_reducible first | exact HB.out | apply qA | apply qN | apply qD) | exact HB.out)⟩⟩
  ·rw [if_neg c3] at H
   (have c3b0 : (a0.toList == ([] : List UInt8)) = false := beq_eq_false_iff_ne.mpr c3); (have c3b1 : (a0.toList != ([] : List UInt8)) = true := bne_iff_ne.mpr c3); ((first | rw [c3b0] | (simp only [i64_w, i32_w]; rw [c3b0]) | skip)); (by_cases c4 : 0 < (a0.size : Int))
   ·rw [if_pos c4] at H
    (have c4b0 : decide (0 < (a0.size : Int)) = true := decide_eq_true c4); (have c4b1 : decide (0 < a0.size) = true := decide_eq_true (by omega)); clear c4; (have H' := qM H); clear H; (have p5 : 0 ≤ (0 : Int) := (by omega)); (have q5 : 0 < a0.size := (by have : (0 : Int) < (a0.size : Int) := qo (by first | (with_reducible assumption) | assumption); omega)); (have hx5 : ∀ h : 0 < a0.size, ((a0[0]'h).toNat : Int) = bt a0 0 := bt_at a0 0); clear p5; (have qi5 : (0 < (a0.size : Int)) = True := eq_true (qo (by first | (with_reducible assumption) | assumption))); (replace q5 := eq_true q5); go_wp2; go_meet
    case rel => exact ⟨_, (((bt a0 0) != 34)), (by first | rfl | (simp; done) | (simp [*]; done)), H', ⟨by first | omega | exact Nat.le_refl _⟩, ⟨by repeat (first | (with_reducible first | exact HB.out | apply qA | apply qN | apply qD) | exact HB.out)⟩⟩
   ·rw [if_neg c4] at H
    exact absurd H (by simp)
 case rest =>
  clear HC2; (try clear c2); (try clear p2); (try clear c3); (try clear c3b0); (try clear c3b1); (try clear c4); (try clear c4b0); (try clear c4b1); (try clear p5); (try clear q5); (try clear hx5); (try clear qi5); (try clear p5); (try clear q5); (obtain ⟨kq, x18_1, rfl, HA, HJ1, HB⟩ := hcut)
  cases kq with
  | zero => exact absurd HA.out (by simp [arboristref01_Unquote.j0])
  | succ kj1 =>
   (have H := HA.out); clear HA; (simp only [arboristref01_Unquote.j0] at H); (by_cases c6 : x18_1 = true)
   ·subst c6
    (have H1 : (some ((⟨#[]⟩ : ByteArray), 0, 3)) = some (r1, r2, r3) := by rw [if_pos rfl] at H; exact H); clear H; (have H := H1); clear H1; (simp only [Option.some.injEq, Prod.mk.injEq] at H); (obtain ⟨rfl, rfl, rfl⟩ := H); go_wp2; (go_ret3); (exact ⟨by first | rfl | (simp [errW_none, errW_some] <;> rfl) | (simp [*, errW_none, errW_some] <;> rfl), by repeat (first | (with_reducible first | exact HB.out | apply qA | apply qN | apply qD) | exact HB.out)⟩)
   ·replace c6 := Bool.eq_false_iff.mpr c6
    subst c6; (have H1 : (arboristref01_Unquote.l0 kj1 a0 (⟨#[]⟩ : ByteArray) 1) = some (r1, r2, r3) := by rw [if_neg (show ¬ (false = true) by decide)] at H; exact H); clear H; (have H := H1); clear H1; (have H' := qM H); clear H; go_wp2; (go_loopg [5, 6] kj1 (fun kq v5 v6 w' => ∃ (x5_2 : ByteArray) (x6_2 : Int), v5 = .string x5_2 ∧ v6 = .int .i64 x6_2 ∧ Aside0 (arboristref01_Unquote.l0 kq a0 x5_2 x6_2 = some (r1, r2, r3)) ∧ Aside0 (kq ≤ kj1) ∧ Aside0 (Below w.heap.size w w')))
    case atStart => exact ⟨((⟨#[]⟩ : ByteArray)), (1), (by first | rfl | (simp; done) | (simp [*]; done)), (by first | rfl | (simp; done) | (simp [*]; done)), H', ⟨Nat.le_refl _⟩, ⟨by repeat (first | (with_reducible first | exact HB.out | apply qA | apply qN | apply qD) | exact HB.out)⟩⟩
    case round =>
     (clear H'); (try clear c2); (try clear p2); (try clear c3); (try clear c3b0); (try clear c3b1); (try clear c4); (try clear c4b0); (try clear c4b1); (try clear p5); (try clear q5); (try clear hx5); (try clear qi5); (try clear c6); (try clear p2); (try clear p5); (try clear q5); (obtain ⟨x5_2, x6_2, rfl, rfl, HA, HK2, HB⟩ := hrel)
     cases gk with
     | zero => exact absurd HA.out (by simp [arboristref01_Unquote.l0])
     | succ k2 =>
      (have H := HA.out); clear HA; (simp only [arboristref01_Unquote.l0] at H); (by_cases c7 : x6_2 < (a0.size : Int))
      ·rw [if_pos c7] at H
       (have c7b0 : decide (x6_2 < (a0.size : Int)) = true := decide_eq_true c7); clear c7; (by_cases c8 : 0 ≤ x6_2)
       ·rw [if_pos c8] at H
        (have c8b0 := eq_true c8); (have c8b1 : decide (0 ≤ x6_2) = true := decide_eq_true c8); clear c8; (by_cases c9 : x6_2 ≤ (a0.size : Int))
        ·rw [if_pos c9] at H
         (have c9b0 := eq_true c9); (have c9b1 : decide (x6_2 ≤ (a0.size : Int)) = true := decide_eq_true c9); clear c9; (replace H := Option.bind_eq_some_iff.mp H); (obtain ⟨⟨t230, t231⟩, A100, H⟩ := H)
         replace H : (if t230 = 34 then (some (x5_2, wrap64 (x6_2 + 1), 0)) else (if t230 = 10 then (some ((⟨#[]⟩ : ByteArray), 0, 13)) else (if t230 = 92 then (if 0 ≤ (wrap64 (x6_2 + 1)) then (if (wrap64 (x6_2 + 1)) ≤ (a0.size : Int) then ((arboristref01_escape.f k2 (a0.extract ((wrap64 (x6_2 + 1)) : Int).toNat a0.size)).bind fun bt232 => (if bt232.2.2 = 0 then (if x5_2.size + bt232.1.size ≤ 9223372036854775807 then (arboristref01_Unquote.l0 k2 a0 (x5_2 ++ bt232.1) (wrap64 (x6_2 + (wrap64 (1 + bt232.2.1))))) else (none)) else (some ((⟨#[]⟩ : ByteArray), 0, bt232.2.2)))) else (none)) else (none)) else (if t230 < 32 then (some ((⟨#[]⟩ : ByteArray), 0, 3)) else (if t230 = 127 then (some ((⟨#[]⟩ : ByteArray), 0, 3)) else ((arboristref01_Invalid.f t230 0 t231).bind fun t235 => (if t235 = true then (some ((⟨#[]⟩ : ByteArray), 0, 3)) else (if x6_2 ≤ (wrap64 (x6_2 + t231)) then (if (wrap64 (x6_2 + t231)) ≤ (a0.size : Int) then (if x5_2.size + (a0.extract (x6_2 : Int).toNat ((wrap64 (x6_2 + t231)) : Int).toNat).size ≤ 9223372036854775807 then (arboristref01_Unquote.l0 k2 a0 (x5_2 ++ (a0.extract (x6_2 : Int).toNat ((wrap64 (x6_2 + t231)) : Int).toNat)) (wrap64 (x6_2 + t231))) else (none)) else (none)) else (none))))))))) = some (r1, r2, r3) := H
         (have A10 := qM A100); clear A100; (by_cases c11 : t230 = 34)
         ·rw [if_pos c11] at H
          (have c11b0 : (t230 == 34) = true := beq_iff_eq.mpr c11); (have c11b1 : (t230 != 34) = false := bne_eq_false_iff_eq.mpr c11); clear c11; (simp only [Option.some.injEq, Prod.mk.injEq] at H); (obtain ⟨rfl, rfl, rfl⟩ := H)
          go_wp2_with (first | ((with_reducible refine gate_callee (f := 30) rfl ?_); refine goesL_ (some 27) rfl rfl Tryd.func30 (by kernel_rfl) rfl #[.string (a0.extract (x6_2 : Int).toNat a0.size)] rfl (by (try simp only [List.map_toArray, List.map_cons, List.map_nil]); first | done | rfl | (simp only [List.length_drop, List.length_take]; rfl)) ?_; (with_reducible refine (arboristref01_one.calls (a0.extract (x6_2 : Int).toNat a0.size) t230 t231 _ A10.out).mono ?_); rintro e w12 ⟨rfl, hb⟩; refine ⟨_, rfl, ?_⟩; have n0_ := qM (qP (by repeat (first | (with_reducible first | exact HB.out | apply qA | apply qN | apply qD) | exact HB.out)) hb); clear HB; have HB := n0_; clear n0_; (try clear hb); (try clear hb2); (try clear hk); (try clear hi)))
          (go_ret3); (exact ⟨by first | rfl | (simp [errW_none, errW_some] <;> rfl) | (simp [*, errW_none, errW_some] <;> rfl), by repeat (first | (with_reducible first | exact HB.out | apply qA | apply qN | apply qD) | exact HB.out)⟩)
         ·rw [if_neg c11] at H
          (have c11b0 : (t230 == 34) = false := beq_eq_false_iff_ne.mpr c11); (have c11b1 : (t230 != 34) = true := bne_iff_ne.mpr c11); (by_cases c13 : t230 = 10)
          ·rw [if_pos c13] at H
           (have c13b0 : (t230 == 10) = true := beq_iff_eq.mpr c13); (have c13b1 : (t230 != 10) = false := bne_eq_false_iff_eq.mpr c13); clear c13; (simp only [Option.some.injEq, Prod.mk.injEq] at H); (obtain ⟨rfl, rfl, rfl⟩ := H)
           go_wp2_with (first | ((with_reducible refine gate_callee (f := 30) rfl ?_); refine goesL_ (some 27) rfl rfl Tryd.func30 (by kernel_rfl) rfl #[.string (a0.extract (x6_2 : Int).toNat a0.size)] rfl (by (try simp only [List.map_toArray, List.map_cons, List.map_nil]); first | done | rfl | (simp only [List.length_drop, List.length_take]; rfl)) ?_; (with_reducible refine (arboristref01_one.calls (a0.extract (x6_2 : Int).toNat a0.size) t230 t231 _ A10.out).mono ?_); rintro e w14 ⟨rfl, hb⟩; refine ⟨_, rfl, ?_⟩; have n0_ := qM (qP (by repeat (first | (with_reducible first | exact HB.out | apply qA | apply qN | apply qD) | exact HB.out)) hb); clear HB; have HB := n0_; clear n0_; (try clear hb); (try clear hb2); (try clear hk); (try clear hi)))
           (go_ret3); (exact ⟨by first | rfl | (simp [errW_none, errW_some] <;> rfl) | (simp [*, errW_none, errW_some] <;> rfl), by repeat (first | (with_reducible first | exact HB.out | apply qA | apply qN | apply qD) | exact HB.out)⟩)
          ·rw [if_neg c13] at H
           (have c13b0 : (t230 == 10) = false := beq_eq_false_iff_ne.mpr c13); (have c13b1 : (t230 != 10) = true := bne_iff_ne.mpr c13); (by_cases c15 : t230 = 92)
           ·rw [if_pos c15] at H
            (have c15b0 : (t230 == 92) = true := beq_iff_eq.mpr c15); (have c15b1 : (t230 != 92) = false := bne_eq_false_iff_eq.mpr c15); clear c15; (obtain ⟨ji16, hji16⟩ : ∃ j_ : Int, (wrap64 (x6_2 + 1)) = j_ := ⟨_, rfl⟩); (replace H : (if 0 ≤ (ji16) then (if (ji16) ≤ (a0.size : Int) then ((arboristref01_escape.f k2 (a0.extract ((ji16) : Int).toNat a0.size)).bind fun bt232 => (if bt232.2.2 = 0 then (if x5_2.size + bt232.1.size ≤ 9223372036854775807 then (arboristref01_Unquote.l0 k2 a0 (x5_2 ++ bt232.1) (wrap64 (x6_2 + (wrap64 (1 + bt232.2.1))))) else (none)) else (some ((⟨#[]⟩ : ByteArray), 0, bt232.2.2)))) else (none)) else (none)) = some (r1, r2, r3) := by first | (rw [hji16] at H; exact H) | (simp only [hji16] at H ⊢; exact H)); ((try rw [hji16] at A10)); (have hji16w : (IntKind.i64.wrap (x6_2 + 1)) = ji16 := (i64_w _).trans hji16); (by_cases c17 : 0 ≤ (ji16))
            ·rw [if_pos c17] at H
             (have c17b0 := eq_true c17); (have c17b1 : decide (0 ≤ (ji16)) = true := decide_eq_true c17); clear c17; (by_cases c18 : (ji16) ≤ (a0.size : Int))
             ·rw [if_pos c18] at H
              (have c18b0 := eq_true c18); (have c18b1 : decide ((ji16) ≤ (a0.size : Int)) = true := decide_eq_true c18); clear c18; (replace H := Option.bind_eq_some_iff.mp H); (obtain ⟨⟨t232, t233, t234⟩, A190, H⟩ := H); (replace H : (if t234 = 0 then (if x5_2.size + t232.size ≤ 9223372036854775807 then (arboristref01_Unquote.l0 k2 a0 (x5_2 ++ t232) (wrap64 (x6_2 + (wrap64 (1 + t233))))) else (none)) else (some ((⟨#[]⟩ : ByteArray), 0, t234))) = some (r1, r2, r3) := H); (have A19 := qM A190); clear A190; (by_cases c20 : t234 = 0)
              ·rw [if_pos c20] at H
               (have c20b0 : (t234 == 0) = true := beq_iff_eq.mpr c20); (have c20b1 : (t234 != 0) = false := bne_eq_false_iff_eq.mpr c20); clear c20; (by_cases c21 : x5_2.size + t232.size ≤ 9223372036854775807)
               ·rw [if_pos c21] at H
                (have c21b0 := eq_true c21); (have c21b1 : decide (x5_2.size + t232.size ≤ 9223372036854775807) = true := decide_eq_true c21); (try have c21b2 : (9223372036854775807 < x5_2.size + t232.size) = False := eq_false (Nat.not_lt.2 c21)); (have H' := qM H); clear H
                go_wp2_with (first | ((with_reducible refine gate_callee (f := 30) rfl ?_); refine goesL_ (some 27) rfl rfl Tryd.func30 (by kernel_rfl) rfl #[.string (a0.extract (x6_2 : Int).toNat a0.size)] rfl (by (try simp only [List.map_toArray, List.map_cons, List.map_nil]); first | done | rfl | (simp only [List.length_drop, List.length_take]; rfl)) ?_; (with_reducible refine (arboristref01_one.calls (a0.extract (x6_2 : Int).toNat a0.size) t230 t231 _ A10.out).mono ?_); rintro e w22 ⟨rfl, hb⟩; refine ⟨_, rfl, ?_⟩; have n0_ := qM (qP (by repeat (first | (with_reducible first | exact HB.out | apply qA | apply qN | apply qD) | exact HB.out)) hb); clear HB; have HB := n0_; clear n0_; (try clear hb); (try clear hb2); (try clear hk); (try clear hi)) | ((with_reducible refine gate_callee (f := 41) rfl ?_); refine goesL_ (some 55) rfl rfl Tryd.func41 (by kernel_rfl) rfl #[.string (a0.extract ((ji16) : Int).toNat a0.size)] rfl (by (try simp only [List.map_toArray, List.map_cons, List.map_nil]); first | done | (simp only [hji16]; rfl) | rfl | (simp only [List.length_drop, List.length_take]; rfl)) ?_; (with_reducible refine (arboristref01_escape.calls k2 (a0.extract ((ji16) : Int).toNat a0.size) t232 t233 t234 _ A19.out).mono ?_); rintro e w23 ⟨rfl, hb⟩; refine ⟨_, rfl, ?_⟩; have n0_ := qM (qP (by repeat (first | (with_reducible first | exact HB.out | apply qA | apply qN | apply qD) | exact HB.out)) hb); clear HB; have HB := n0_; clear n0_; (try clear hb); (try clear hb2); (try clear hk); (try clear hi)))
                go_roundg k2
                case measure => have := HJ1.out; have := HK2.out; omega
                case rel => exact ⟨(x5_2 ++ t232), (wrap64 (x6_2 + (wrap64 (1 + t233)))), (by first | rfl | (simp; done) | (simp [*]; done)), (by first | rfl | (simp; done) | (simp [*]; done)), H', ⟨by have := HJ1.out; have := HK2.out; omega⟩, ⟨by repeat (first | (with_reducible first | exact HB.out | apply qA | apply qN | apply qD) | exact HB.out)⟩⟩
               ·rw [if_neg c21] at H
                exact absurd H (by simp)
              ·rw [if_neg c20] at H
               (have c20b0 : (t234 == 0) = false := beq_eq_false_iff_ne.mpr c20); (have c20b1 : (t234 != 0) = true := bne_iff_ne.mpr c20); (simp only [Option.some.injEq, Prod.mk.injEq] at H); (obtain ⟨rfl, rfl, rfl⟩ := H)
               go_wp2_with (first | ((with_reducible refine gate_callee (f := 30) rfl ?_); refine goesL_ (some 27) rfl rfl Tryd.func30 (by kernel_rfl) rfl #[.string (a0.extract (x6_2 : Int).toNat a0.size)] rfl (by (try simp only [List.map_toArray, List.map_cons, List.map_nil]); first | done | rfl | (simp only [List.length_drop, List.length_take]; rfl)) ?_; (with_reducible refine (arboristref01_one.calls (a0.extract (x6_2 : Int).toNat a0.size) t230 t231 _ A10.out).mono ?_); rintro e w24 ⟨rfl, hb⟩; refine ⟨_, rfl, ?_⟩; have n0_ := qM (qP (by repeat (first | (with_reducible first | exact HB.out | apply qA | apply qN | apply qD) | exact HB.out)) hb); clear HB; have HB := n0_; clear n0_; (try clear hb); (try clear hb2); (try clear hk); (try clear hi)) | ((with_reducible refine gate_callee (f := 41) rfl ?_); refine goesL_ (some 55) rfl rfl Tryd.func41 (by kernel_rfl) rfl #[.string (a0.extract ((ji16) : Int).toNat a0.size)] rfl (by (try simp only [List.map_toArray, List.map_cons, List.map_nil]); first | done | (simp only [hji16]; rfl) | rfl | (simp only [List.length_drop, List.length_take]; rfl)) ?_; (with_reducible refine (arboristref01_escape.calls k2 (a0.extract ((ji16) : Int).toNat a0.size) t232 t233 t234 _ A19.out).mono ?_); rintro e w25 ⟨rfl, hb⟩; refine ⟨_, rfl, ?_⟩; have n0_ := qM (qP (by repeat (first | (with_reducible first | exact HB.out | apply qA | apply qN | apply qD) | exact HB.out)) hb); clear HB; have HB := n0_; clear n0_; (try clear hb); (try clear hb2); (try clear hk); (try clear hi)))
               (go_ret3); (exact ⟨by first | rfl | (simp [errW_none, errW_some] <;> rfl) | (simp only [← hji16]; first | rfl | (simp [errW_none, errW_some] <;> rfl)) | (simp [*, errW_none, errW_some] <;> rfl), by repeat (first | (with_reducible first | exact HB.out | apply qA | apply qN | apply qD) | exact HB.out)⟩)
             ·rw [if_neg c18] at H
              exact absurd H (by simp)
            ·rw [if_neg c17] at H
             exact absurd H (by simp)
           ·rw [if_neg c15] at H
            (have c15b0 : (t230 == 92) = false := beq_eq_false_iff_ne.mpr c15); (have c15b1 : (t230 != 92) = true := bne_iff_ne.mpr c15); (by_cases c26 : t230 < 32)
            ·rw [if_pos c26] at H
             (have c26b0 : decide (t230 < 32) = true := decide_eq_true c26); clear c26; (simp only [Option.some.injEq, Prod.mk.injEq] at H); (obtain ⟨rfl, rfl, rfl⟩ := H)
             go_wp2_with (first | ((with_reducible refine gate_callee (f := 30) rfl ?_); refine goesL_ (some 27) rfl rfl Tryd.func30 (by kernel_rfl) rfl #[.string (a0.extract (x6_2 : Int).toNat a0.size)] rfl (by (try simp only [List.map_toArray, List.map_cons, List.map_nil]); first | done | rfl | (simp only [List.length_drop, List.length_take]; rfl)) ?_; (with_reducible refine (arboristref01_one.calls (a0.extract (x6_2 : Int).toNat a0.size) t230 t231 _ A10.out).mono ?_); rintro e w27 ⟨rfl, hb⟩; refine ⟨_, rfl, ?_⟩; have n0_ := qM (qP (by repeat (first | (with_reducible first | exact HB.out | apply qA | apply qN | apply qD) | exact HB.out)) hb); clear HB; have HB := n0_; clear n0_; (try clear hb); (try clear hb2); (try clear hk); (try clear hi)))
             (go_ret3); (exact ⟨by first | rfl | (simp [errW_none, errW_some] <;> rfl) | (simp [*, errW_none, errW_some] <;> rfl), by repeat (first | (with_reducible first | exact HB.out | apply qA | apply qN | apply qD) | exact HB.out)⟩)
            ·rw [if_neg c26] at H
             (have c26b0 : decide (t230 < 32) = false := decide_eq_false c26); clear c26; (by_cases c28 : t230 = 127)
             ·rw [if_pos c28] at H
              (have c28b0 : (t230 == 127) = true := beq_iff_eq.mpr c28); (have c28b1 : (t230 != 127) = false := bne_eq_false_iff_eq.mpr c28); clear c28; (simp only [Option.some.injEq, Prod.mk.injEq] at H); (obtain ⟨rfl, rfl, rfl⟩ := H)
              go_wp2_with (first | ((with_reducible refine gate_callee (f := 30) rfl ?_); refine goesL_ (some 27) rfl rfl Tryd.func30 (by kernel_rfl) rfl #[.string (a0.extract (x6_2 : Int).toNat a0.size)] rfl (by (try simp only [List.map_toArray, List.map_cons, List.map_nil]); first | done | rfl | (simp only [List.length_drop, List.length_take]; rfl)) ?_; (with_reducible refine (arboristref01_one.calls (a0.extract (x6_2 : Int).toNat a0.size) t230 t231 _ A10.out).mono ?_); rintro e w29 ⟨rfl, hb⟩; refine ⟨_, rfl, ?_⟩; have n0_ := qM (qP (by repeat (first | (with_reducible first | exact HB.out | apply qA | apply qN | apply qD) | exact HB.out)) hb); clear HB; have HB := n0_; clear n0_; (try clear hb); (try clear hb2); (try clear hk); (try clear hi)))
              (go_ret3); (exact ⟨by first | rfl | (simp [errW_none, errW_some] <;> rfl) | (simp [*, errW_none, errW_some] <;> rfl), by repeat (first | (with_reducible first | exact HB.out | apply qA | apply qN | apply qD) | exact HB.out)⟩)
             ·rw [if_neg c28] at H
              (have c28b0 : (t230 == 127) = false := beq_eq_false_iff_ne.mpr c28); (have c28b1 : (t230 != 127) = true := bne_iff_ne.mpr c28); (replace H := Option.bind_eq_some_iff.mp H); (obtain ⟨t235, A300, H⟩ := H); (replace H : (if t235 = true then (some ((⟨#[]⟩ : ByteArray), 0, 3)) else (if x6_2 ≤ (wrap64 (x6_2 + t231)) then (if (wrap64 (x6_2 + t231)) ≤ (a0.size : Int) then (if x5_2.size + (a0.extract (x6_2 : Int).toNat ((wrap64 (x6_2 + t231)) : Int).toNat).size ≤ 9223372036854775807 then (arboristref01_Unquote.l0 k2 a0 (x5_2 ++ (a0.extract (x6_2 : Int).toNat ((wrap64 (x6_2 + t231)) : Int).toNat)) (wrap64 (x6_2 + t231))) else (none)) else (none)) else (none))) = some (r1, r2, r3) := H); (have A30 := qM A300); clear A300; (by_cases c31 : t235 = true)
              ·subst c31
               (have H1 : (some ((⟨#[]⟩ : ByteArray), 0, 3)) = some (r1, r2, r3) := by rw [if_pos rfl] at H; exact H); clear H; (have H := H1); clear H1; (simp only [Option.some.injEq, Prod.mk.injEq] at H); (obtain ⟨rfl, rfl, rfl⟩ := H)
               go_wp2_with (first | ((with_reducible refine gate_callee (f := 30) rfl ?_); refine goesL_ (some 27) rfl rfl Tryd.func30 (by kernel_rfl) rfl #[.string (a0.extract (x6_2 : Int).toNat a0.size)] rfl (by (try simp only [List.map_toArray, List.map_cons, List.map_nil]); first | done | rfl | (simp only [List.length_drop, List.length_take]; rfl)) ?_; (with_reducible refine (arboristref01_one.calls (a0.extract (x6_2 : Int).toNat a0.size) t230 t231 _ A10.out).mono ?_); rintro e w32 ⟨rfl, hb⟩; refine ⟨_, rfl, ?_⟩; have n0_ := qM (qP (by repeat (first | (with_reducible first | exact HB.out | apply qA | apply qN | apply qD) | exact HB.out)) hb); clear HB; have HB := n0_; clear n0_; (try clear hb); (try clear hb2); (try clear hk); (try clear hi)) | (go_at_call 39; (with_reducible refine (arboristref01_Invalid.calls t230 0 t231 true _ A30.out).mono ?_); rintro e w33 ⟨rfl, hb⟩; have n0_ := qM (qP (by repeat (first | (with_reducible first | exact HB.out | apply qA | apply qN | apply qD) | exact HB.out)) hb); clear HB; have HB := n0_; clear n0_; (try clear hb); (try clear hb2); (try clear hk); (try clear hi)))
               (go_ret3); (exact ⟨by first | rfl | (simp [errW_none, errW_some] <;> rfl) | (simp [*, errW_none, errW_some] <;> rfl), by repeat (first | (with_reducible first | exact HB.out | apply qA | apply qN | apply qD) | exact HB.out)⟩)
              ·replace c31 := Bool.eq_false_iff.mpr c31
               subst c31; (have H1 : (if x6_2 ≤ (wrap64 (x6_2 + t231)) then (if (wrap64 (x6_2 + t231)) ≤ (a0.size : Int) then (if x5_2.size + (a0.extract (x6_2 : Int).toNat ((wrap64 (x6_2 + t231)) : Int).toNat).size ≤ 9223372036854775807 then (arboristref01_Unquote.l0 k2 a0 (x5_2 ++ (a0.extract (x6_2 : Int).toNat ((wrap64 (x6_2 + t231)) : Int).toNat)) (wrap64 (x6_2 + t231))) else (none)) else (none)) else (none)) = some (r1, r2, r3) := by rw [if_neg (show ¬ (false = true) by decide)] at H; exact H); clear H; (have H := H1); clear H1; (have c34b0 := eq_true (qo (by first | (with_reducible assumption) | assumption) : 0 ≤ x6_2)); (by_cases c35 : x6_2 ≤ (wrap64 (x6_2 + t231)))
               ·rw [if_pos c35] at H
                (have c35b0 := eq_true c35); (have c35b1 : decide (x6_2 ≤ (wrap64 (x6_2 + t231))) = true := decide_eq_true c35); (by_cases c36 : (wrap64 (x6_2 + t231)) ≤ (a0.size : Int))
                ·rw [if_pos c36] at H
                 (have c36b0 := eq_true c36); (have c36b1 : decide ((wrap64 (x6_2 + t231)) ≤ (a0.size : Int)) = true := decide_eq_true c36); (by_cases c37 : x5_2.size + (a0.extract (x6_2 : Int).toNat ((wrap64 (x6_2 + t231)) : Int).toNat).size ≤ 9223372036854775807)
                 ·rw [if_pos c37] at H
                  (have c37b0 := eq_true c37); (have c37b1 : decide (x5_2.size + (a0.extract (x6_2 : Int).toNat ((wrap64 (x6_2 + t231)) : Int).toNat).size ≤ 9223372036854775807) = true := decide_eq_true c37); (try have c37b2 : (9223372036854775807 < x5_2.size + (a0.extract (x6_2 : Int).toNat ((wrap64 (x6_2 + t231)) : Int).toNat).size) = False := eq_false (Nat.not_lt.2 c37)); (try have c37b4 : (9223372036854775807 < x5_2.size + (((wrap64 (x6_2 + t231)) : Int).toNat - (x6_2 : Int).toNat)) = False := eq_false (Nat.not_lt.2 (by have h_ := c37; simp only [ByteArray.size_append, ByteArray.size_extract] at h_; omega))); (have H' := qM H); clear H
                  go_wp2_with (first | ((with_reducible refine gate_callee (f := 30) rfl ?_); refine goesL_ (some 27) rfl rfl Tryd.func30 (by kernel_rfl) rfl #[.string (a0.extract (x6_2 : Int).toNat a0.size)] rfl (by (try simp only [List.map_toArray, List.map_cons, List.map_nil]); first | done | rfl | (simp only [List.length_drop, List.length_take]; rfl)) ?_; (with_reducible refine (arboristref01_one.calls (a0.extract (x6_2 : Int).toNat a0.size) t230 t231 _ A10.out).mono ?_); rintro e w38 ⟨rfl, hb⟩; refine ⟨_, rfl, ?_⟩; have n0_ := qM (qP (by repeat (first | (with_reducible first | exact HB.out | apply qA | apply qN | apply qD) | exact HB.out)) hb); clear HB; have HB := n0_; clear n0_; (try clear hb); (try clear hb2); (try clear hk); (try clear hi)) | (go_at_call 39; (with_reducible refine (arboristref01_Invalid.calls t230 0 t231 false _ A30.out).mono ?_); rintro e w39 ⟨rfl, hb⟩; have n0_ := qM (qP (by repeat (first | (with_reducible first | exact HB.out | apply qA | apply qN | apply qD) | exact HB.out)) hb); clear HB; have HB := n0_; clear n0_; (try clear hb); (try clear hb2); (try clear hk); (try clear hi)))
                  go_roundg k2
                  case measure => have := HJ1.out; have := HK2.out; omega
                  case rel => exact ⟨(x5_2 ++ (a0.extract (x6_2 : Int).toNat ((wrap64 (x6_2 + t231)) : Int).toNat)), (wrap64 (x6_2 + t231)), (by first | rfl | (simp; done) | (simp [*]; done)), (by first | rfl | (simp; done) | (simp [*]; done)), H', ⟨by have := HJ1.out; have := HK2.out; omega⟩, ⟨by repeat (first | (with_reducible first | exact HB.out | apply qA | apply qN | apply qD) | exact HB.out)⟩⟩
                 ·rw [if_neg c37] at H
                  exact absurd H (by simp)
                ·rw [if_neg c36] at H
                 exact absurd H (by simp)
               ·rw [if_neg c35] at H
                exact absurd H (by simp)
        ·rw [if_neg c9] at H
         exact absurd H (by simp)
       ·rw [if_neg c8] at H
        exact absurd H (by simp)
      ·rw [if_neg c7] at H
       (have c7b0 : decide (x6_2 < (a0.size : Int)) = false := decide_eq_false c7); clear c7; (simp only [Option.some.injEq, Prod.mk.injEq] at H); (obtain ⟨rfl, rfl, rfl⟩ := H); go_wp2; (go_ret3); (exact ⟨by first | rfl | (simp [errW_none, errW_some] <;> rfl) | (simp [*, errW_none, errW_some] <;> rfl), by repeat (first | (with_reducible first | exact HB.out | apply qA | apply qN | apply qD) | exact HB.out)⟩)

mutual
def arboristref01_IsName.j0 : Nat → ByteArray → Bool → Option (Bool)
 | 0, _, _ => none
 | k + 1, x0, x11 => if x11 = true then (some false) else (arboristref01_IsName.l0 k x0 0)
def arboristref01_IsName.l0 : Nat → ByteArray → Int → Option (Bool)
 | 0, _, _ => none
 | k + 1, x0, x3 => if x3 < (x0.size : Int) then (if 0 ≤ x3 then (if (bt x0 x3) ≥ 97 then (if (bt x0 x3) ≤ 122 then (arboristref01_IsName.l0 k x0 (wrap64 (x3 + 1))) else (if (bt x0 x3) ≥ 65 then (if (bt x0 x3) ≤ 90 then (arboristref01_IsName.l0 k x0 (wrap64 (x3 + 1))) else (if (bt x0 x3) = 95 then (arboristref01_IsName.l0 k x0 (wrap64 (x3 + 1))) else (if x3 > 0 then (if (bt x0 x3) ≥ 48 then (if ((bt x0 x3) ≤ 57) then (arboristref01_IsName.l0 k x0 (wrap64 (x3 + 1))) else (some false)) else (some false)) else (some false)))) else (if (bt x0 x3) = 95 then (arboristref01_IsName.l0 k x0 (wrap64 (x3 + 1))) else (if x3 > 0 then (if (bt x0 x3) ≥ 48 then (if ((bt x0 x3) ≤ 57) then (arboristref01_IsName.l0 k x0 (wrap64 (x3 + 1))) else (some false)) else (some false)) else (some false))))) else (if (bt x0 x3) ≥ 65 then (if (bt x0 x3) ≤ 90 then (arboristref01_IsName.l0 k x0 (wrap64 (x3 + 1))) else (if (bt x0 x3) = 95 then (arboristref01_IsName.l0 k x0 (wrap64 (x3 + 1))) else (if x3 > 0 then (if (bt x0 x3) ≥ 48 then (if ((bt x0 x3) ≤ 57) then (arboristref01_IsName.l0 k x0 (wrap64 (x3 + 1))) else (some false)) else (some false)) else (some false)))) else (if (bt x0 x3) = 95 then (arboristref01_IsName.l0 k x0 (wrap64 (x3 + 1))) else (if x3 > 0 then (if (bt x0 x3) ≥ 48 then (if ((bt x0 x3) ≤ 57) then (arboristref01_IsName.l0 k x0 (wrap64 (x3 + 1))) else (some false)) else (some false)) else (some false))))) else (none)) else (some true)
end
def arboristref01_IsName.f (k : Nat) (a0 : ByteArray) : Option (Bool) := if a0.toList = ([] : List UInt8) then (arboristref01_IsName.j0 k a0 true) else (arboristref01_IsName.j0 k a0 (decide ((a0.size : Int) > 32)))
set_option maxHeartbeats 8000000 in
set_option maxRecDepth 100000 in
theorem arboristref01_IsName.calls (k : Nat) (a0 : ByteArray) (r : Bool) (w : World) (h : arboristref01_IsName.f k a0 = some r) :
  Calls Tryd.prog 23 #[.string a0] w fun e w' => e = .returned (.bool r) ∧ Drawn0 w w' := by
 (have H : (if a0.toList = ([] : List UInt8) then (arboristref01_IsName.j0 k a0 true) else (arboristref01_IsName.j0 k a0 (decide ((a0.size : Int) > 32)))) = some r := h); clear h; (have HC2 := qM H); clear H; (go_enter Tryd.func23, Tryd.ntmps23); (go_upto_region 1 with (fail)); (go_cut [11] (fun v11 wc => ∃ (kq : Nat) (x11_1 : Bool), v11 = .bool x11_1 ∧ Aside0 (arboristref01_IsName.j0 kq a0 x11_1 = some r) ∧ Aside0 (kq ≤ k) ∧ Drawn0 w wc))
 case first =>
  (have H := HC2.out); clear HC2; (by_cases c3 : a0.toList = ([] : List UInt8))
  ·rw [if_pos c3] at H
   (have c3b0 : (a0.toList == ([] : List UInt8)) = true := beq_iff_eq.mpr c3); (have c3b1 : (a0.toList != ([] : List UInt8)) = false := bne_eq_false_iff_eq.mpr c3); clear c3; ((first | rw [c3b0] | (simp only [i64_w, i32_w]; rw [c3b0]) | skip)); (have H' := qM H); clear H; go_wp2; go_meet
   case rel => exact ⟨_, (true), (by first | rfl | (simp; done) | (simp [*]; done)), H', ⟨by first | omega | exact Nat.le_refl _⟩, by repeat (first | exact Drawn0.refl _ | apply Drawn0.step)⟩
  ·rw [if_neg c3] at H
   (have c3b0 : (a0.toList == ([] : List UInt8)) = false := beq_eq_false_iff_ne.mpr c3); (have c3b1 : (a0.toList != ([] : List UInt8)) = true := bne_iff_ne.mpr c3); ((first | rw [c3b0] | (simp only [i64_w, i32_w]; rw [c3b0]) | skip)); (have H' := qM H); clear H; go_wp2; go_meet
   case rel => exact ⟨_, (decide ((a0.size : Int) > 32)), (by first | rfl | (simp; done) | (simp [*]; done)), H', ⟨by first | omega | exact Nat.le_refl _⟩, by repeat (first | exact Drawn0.refl _ | apply Drawn0.step)⟩
 case rest =>
  clear HC2; (try clear c2); (try clear p2); (try clear c3); (try clear c3b0); (try clear c3b1); (obtain ⟨kq, x11_1, rfl, HA, HJ1, ⟨mc1, rfl⟩⟩ := hcut)
  cases kq with
  | zero => exact absurd HA.out (by simp [arboristref01_IsName.j0])
  | succ kj1 =>
   (have H := HA.out); clear HA; (simp only [arboristref01_IsName.j0] at H); (by_cases c4 : x11_1 = true)
   ·subst c4
    (have H1 : (some false) = some r := by rw [if_pos rfl] at H; exact H); clear H; (have H := H1); clear H1; (obtain rfl := Option.some.inj H); go_wp2; (go_ret); (exact ⟨by first | rfl | (simp; done) | (simp [*]; done), by repeat (first | exact Drawn0.refl _ | apply Drawn0.step)⟩)
   ·replace c4 := Bool.eq_false_iff.mpr c4
    subst c4; (have H1 : (arboristref01_IsName.l0 kj1 a0 0) = some r := by rw [if_neg (show ¬ (false = true) by decide)] at H; exact H); clear H; (have H := H1); clear H1; (have H' := qM H); clear H; go_wp2; (go_loopg [3] kj1 (fun kq v3 w' => ∃ (x3_2 : Int), v3 = .int .i64 x3_2 ∧ Aside0 (arboristref01_IsName.l0 kq a0 x3_2 = some r) ∧ Aside0 (kq ≤ kj1) ∧ Drawn0 w w'))
    case atStart => exact ⟨(0), (by first | rfl | (simp; done) | (simp [*]; done)), H', ⟨Nat.le_refl _⟩, by repeat (first | exact Drawn0.refl _ | apply Drawn0.step)⟩
    case round =>
     (clear H'); (try clear c1); (try clear c2); (try clear p2); (try clear c3); (try clear c3b0); (try clear c3b1); (try clear c4); (try clear p2); (obtain ⟨x3_2, rfl, HA, HK2, ⟨m2, rfl⟩⟩ := hrel)
     cases gk with
     | zero => exact absurd HA.out (by simp [arboristref01_IsName.l0])
     | succ k2 =>
      (have H := HA.out); clear HA; (simp only [arboristref01_IsName.l0] at H); (by_cases c5 : x3_2 < (a0.size : Int))
      ·rw [if_pos c5] at H
       (have c5b0 : decide (x3_2 < (a0.size : Int)) = true := decide_eq_true c5); clear c5; (by_cases c6 : 0 ≤ x3_2)
       ·rw [if_pos c6] at H
        (have c6b0 : decide (0 ≤ x3_2) = true := decide_eq_true c6); clear c6; (by_cases c8 : (bt a0 x3_2) ≥ 97)
        ·rw [if_pos c8] at H
         (have c8b0 : decide (97 ≤ (bt a0 x3_2)) = true := decide_eq_true c8); clear c8; (by_cases c9 : (bt a0 x3_2) ≤ 122)
         ·rw [if_pos c9] at H
          (have c9b0 : decide ((bt a0 x3_2) ≤ 122) = true := decide_eq_true c9); clear c9; (have H' := qM H); clear H; (have p7 : 0 ≤ (x3_2 : Int) := qo (by first | (with_reducible assumption) | assumption)); (have q7 : x3_2 < (a0.size : Int) := qo (by first | (with_reducible assumption) | assumption)); (have hx7 := bt_at a0 x3_2); (replace p7 := eq_true p7); (replace q7 := eq_true q7); go_wp2; (go_roundg k2)
          case measure => have := HJ1.out; have := HK2.out; omega
          case rel => exact ⟨(wrap64 (x3_2 + 1)), (by first | rfl | (simp; done) | (simp [*]; done)), H', ⟨by have := HJ1.out; have := HK2.out; omega⟩, by repeat (first | exact Drawn0.refl _ | apply Drawn0.step)⟩
         ·rw [if_neg c9] at H
          (have c9b0 : decide ((bt a0 x3_2) ≤ 122) = false := decide_eq_false c9); clear c9; (by_cases c10 : (bt a0 x3_2) ≥ 65)
          ·rw [if_pos c10] at H
           (have c10b0 : decide (65 ≤ (bt a0 x3_2)) = true := decide_eq_true c10); clear c10; (by_cases c11 : (bt a0 x3_2) ≤ 90)
           ·rw [if_pos c11] at H
            (have c11b0 : decide ((bt a0 x3_2) ≤ 90) = true := decide_eq_true c11); clear c11; (have H' := qM H); clear H; (have p7 : 0 ≤ (x3_2 : Int) := qo (by first | (with_reducible assumption) | assumption)); (have q7 : x3_2 < (a0.size : Int) := qo (by first | (with_reducible assumption) | assumption)); (have hx7 := bt_at a0 x3_2); (replace p7 := eq_true p7); (replace q7 := eq_true q7); go_wp2; (go_roundg k2)
            case measure => have := HJ1.out; have := HK2.out; omega
            case rel => exact ⟨(wrap64 (x3_2 + 1)), (by first | rfl | (simp; done) | (simp [*]; done)), H', ⟨by have := HJ1.out; have := HK2.out; omega⟩, by repeat (first | exact Drawn0.refl _ | apply Drawn0.step)⟩
           ·rw [if_neg c11] at H
            (have c11b0 : decide ((bt a0 x3_2) ≤ 90) = false := decide_eq_false c11); clear c11; (by_cases c12 : (bt a0 x3_2) = 95)
            ·rw [if_pos c12] at H
             (have c12b0 : ((bt a0 x3_2) == 95) = true := beq_iff_eq.mpr c12); (have c12b1 : ((bt a0 x3_2) != 95) = false := bne_eq_false_iff_eq.mpr c12); clear c12; (have H' := qM H); clear H; (have p7 : 0 ≤ (x3_2 : Int) := qo (by first | (with_reducible assumption) | assumption)); (have q7 : x3_2 < (a0.size : Int) := qo (by first | (with_reducible assumption) | assumption)); (have hx7 := bt_at a0 x3_2); (replace p7 := eq_true p7); (replace q7 := eq_true q7); go_wp2; (go_roundg k2)
             case measure => have := HJ1.out; have := HK2.out; omega
             case rel => exact ⟨(wrap64 (x3_2 + 1)), (by first | rfl | (simp; done) | (simp [*]; done)), H', ⟨by have := HJ1.out; have := HK2.out; omega⟩, by repeat (first | exact Drawn0.refl _ | apply Drawn0.step)⟩
            ·rw [if_neg c12] at H
             (have c12b0 : ((bt a0 x3_2) == 95) = false := beq_eq_false_iff_ne.mpr c12); (have c12b1 : ((bt a0 x3_2) != 95) = true := bne_iff_ne.mpr c12); (by_cases c13 : x3_2 > 0)
             ·rw [if_pos c13] at H
              (have c13b0 : decide (0 < x3_2) = true := decide_eq_true c13); clear c13; (by_cases c14 : (bt a0 x3_2) ≥ 48)
              ·rw [if_pos c14] at H
               (have c14b0 : decide (48 ≤ (bt a0 x3_2)) = true := decide_eq_true c14); clear c14; (by_cases c15 : ((bt a0 x3_2) ≤ 57))
               ·rw [if_pos c15] at H
                (have c15b0 : decide ((bt a0 x3_2) ≤ 57) = true := decide_eq_true c15); clear c15; (have H' := qM H); clear H; (have p7 : 0 ≤ (x3_2 : Int) := qo (by first | (with_reducible assumption) | assumption)); (have q7 : x3_2 < (a0.size : Int) := qo (by first | (with_reducible assumption) | assumption)); (have hx7 := bt_at a0 x3_2); (replace p7 := eq_true p7); (replace q7 := eq_true q7); go_wp2; (go_roundg k2)
                case measure => have := HJ1.out; have := HK2.out; omega
                case rel => exact ⟨(wrap64 (x3_2 + 1)), (by first | rfl | (simp; done) | (simp [*]; done)), H', ⟨by have := HJ1.out; have := HK2.out; omega⟩, by repeat (first | exact Drawn0.refl _ | apply Drawn0.step)⟩
               ·rw [if_neg c15] at H
                (have c15b0 : decide ((bt a0 x3_2) ≤ 57) = false := decide_eq_false c15); clear c15; (obtain rfl := Option.some.inj H); (have p7 : 0 ≤ (x3_2 : Int) := qo (by first | (with_reducible assumption) | assumption)); (have q7 : x3_2 < (a0.size : Int) := qo (by first | (with_reducible assumption) | assumption)); (have hx7 := bt_at a0 x3_2); (replace p7 := eq_true p7); (replace q7 := eq_true q7); go_wp2; (go_ret); (exact ⟨by first | rfl | (simp; done) | (simp [*]; done), by repeat (first | exact Drawn0.refl _ | apply Drawn0.step)⟩)
              ·rw [if_neg c14] at H
               (have c14b0 : decide (48 ≤ (bt a0 x3_2)) = false := decide_eq_false c14); clear c14; (obtain rfl := Option.some.inj H); (have p7 : 0 ≤ (x3_2 : Int) := qo (by first | (with_reducible assumption) | assumption)); (have q7 : x3_2 < (a0.size : Int) := qo (by first | (with_reducible assumption) | assumption)); (have hx7 := bt_at a0 x3_2); (replace p7 := eq_true p7); (replace q7 := eq_true q7); go_wp2; (go_ret); (exact ⟨by first | rfl | (simp; done) | (simp [*]; done), by repeat (first | exact Drawn0.refl _ | apply Drawn0.step)⟩)
             ·rw [if_neg c13] at H
              (have c13b0 : decide (0 < x3_2) = false := decide_eq_false c13); clear c13; (obtain rfl := Option.some.inj H); (have p7 : 0 ≤ (x3_2 : Int) := qo (by first | (with_reducible assumption) | assumption)); (have q7 : x3_2 < (a0.size : Int) := qo (by first | (with_reducible assumption) | assumption)); (have hx7 := bt_at a0 x3_2); (replace p7 := eq_true p7); (replace q7 := eq_true q7); go_wp2; (go_ret); (exact ⟨by first | rfl | (simp; done) | (simp [*]; done), by repeat (first | exact Drawn0.refl _ | apply Drawn0.step)⟩)
          ·rw [if_neg c10] at H
           (have c10b0 : decide (65 ≤ (bt a0 x3_2)) = false := decide_eq_false c10); clear c10; (by_cases c16 : (bt a0 x3_2) = 95)
           ·rw [if_pos c16] at H
            (have c16b0 : ((bt a0 x3_2) == 95) = true := beq_iff_eq.mpr c16); (have c16b1 : ((bt a0 x3_2) != 95) = false := bne_eq_false_iff_eq.mpr c16); clear c16; (have H' := qM H); clear H; (have p7 : 0 ≤ (x3_2 : Int) := qo (by first | (with_reducible assumption) | assumption)); (have q7 : x3_2 < (a0.size : Int) := qo (by first | (with_reducible assumption) | assumption)); (have hx7 := bt_at a0 x3_2); (replace p7 := eq_true p7); (replace q7 := eq_true q7); go_wp2; (go_roundg k2)
            case measure => have := HJ1.out; have := HK2.out; omega
            case rel => exact ⟨(wrap64 (x3_2 + 1)), (by first | rfl | (simp; done) | (simp [*]; done)), H', ⟨by have := HJ1.out; have := HK2.out; omega⟩, by repeat (first | exact Drawn0.refl _ | apply Drawn0.step)⟩
           ·rw [if_neg c16] at H
            (have c16b0 : ((bt a0 x3_2) == 95) = false := beq_eq_false_iff_ne.mpr c16); (have c16b1 : ((bt a0 x3_2) != 95) = true := bne_iff_ne.mpr c16); (by_cases c17 : x3_2 > 0)
            ·rw [if_pos c17] at H
             (have c17b0 : decide (0 < x3_2) = true := decide_eq_true c17); clear c17; (by_cases c18 : (bt a0 x3_2) ≥ 48)
             ·rw [if_pos c18] at H
              (have c18b0 : decide (48 ≤ (bt a0 x3_2)) = true := decide_eq_true c18); clear c18; (by_cases c19 : ((bt a0 x3_2) ≤ 57))
              ·rw [if_pos c19] at H
               (have c19b0 : decide ((bt a0 x3_2) ≤ 57) = true := decide_eq_true c19); clear c19; (have H' := qM H); clear H; (have p7 : 0 ≤ (x3_2 : Int) := qo (by first | (with_reducible assumption) | assumption)); (have q7 : x3_2 < (a0.size : Int) := qo (by first | (with_reducible assumption) | assumption)); (have hx7 := bt_at a0 x3_2); (replace p7 := eq_true p7); (replace q7 := eq_true q7); go_wp2; (go_roundg k2)
               case measure => have := HJ1.out; have := HK2.out; omega
               case rel => exact ⟨(wrap64 (x3_2 + 1)), (by first | rfl | (simp; done) | (simp [*]; done)), H', ⟨by have := HJ1.out; have := HK2.out; omega⟩, by repeat (first | exact Drawn0.refl _ | apply Drawn0.step)⟩
              ·rw [if_neg c19] at H
               (have c19b0 : decide ((bt a0 x3_2) ≤ 57) = false := decide_eq_false c19); clear c19; (obtain rfl := Option.some.inj H); (have p7 : 0 ≤ (x3_2 : Int) := qo (by first | (with_reducible assumption) | assumption)); (have q7 : x3_2 < (a0.size : Int) := qo (by first | (with_reducible assumption) | assumption)); (have hx7 := bt_at a0 x3_2); (replace p7 := eq_true p7); (replace q7 := eq_true q7); go_wp2; (go_ret); (exact ⟨by first | rfl | (simp; done) | (simp [*]; done), by repeat (first | exact Drawn0.refl _ | apply Drawn0.step)⟩)
             ·rw [if_neg c18] at H
              (have c18b0 : decide (48 ≤ (bt a0 x3_2)) = false := decide_eq_false c18); clear c18; (obtain rfl := Option.some.inj H); (have p7 : 0 ≤ (x3_2 : Int) := qo (by first | (with_reducible assumption) | assumption)); (have q7 : x3_2 < (a0.size : Int) := qo (by first | (with_reducible assumption) | assumption)); (have hx7 := bt_at a0 x3_2); (replace p7 := eq_true p7); (replace q7 := eq_true q7); go_wp2; (go_ret); (exact ⟨by first | rfl | (simp; done) | (simp [*]; done), by repeat (first | exact Drawn0.refl _ | apply Drawn0.step)⟩)
            ·rw [if_neg c17] at H
             (have c17b0 : decide (0 < x3_2) = false := decide_eq_false c17); clear c17; (obtain rfl := Option.some.inj H); (have p7 : 0 ≤ (x3_2 : Int) := qo (by first | (with_reducible assumption) | assumption)); (have q7 : x3_2 < (a0.size : Int) := qo (by first | (with_reducible assumption) | assumption)); (have hx7 := bt_at a0 x3_2); (replace p7 := eq_true p7); (replace q7 := eq_true q7); go_wp2; (go_ret); (exact ⟨by first | rfl | (simp; done) | (simp [*]; done), by repeat (first | exact Drawn0.refl _ | apply Drawn0.step)⟩)
        ·rw [if_neg c8] at H
         (have c8b0 : decide (97 ≤ (bt a0 x3_2)) = false := decide_eq_false c8); clear c8; (by_cases c20 : (bt a0 x3_2) ≥ 65)
         ·rw [if_pos c20] at H
          (have c20b0 : decide (65 ≤ (bt a0 x3_2)) = true := decide_eq_true c20); clear c20; (by_cases c21 : (bt a0 x3_2) ≤ 90)
          ·rw [if_pos c21] at H
           (have c21b0 : decide ((bt a0 x3_2) ≤ 90) = true := decide_eq_true c21); clear c21; (have H' := qM H); clear H; (have p7 : 0 ≤ (x3_2 : Int) := qo (by first | (with_reducible assumption) | assumption)); (have q7 : x3_2 < (a0.size : Int) := qo (by first | (with_reducible assumption) | assumption)); (have hx7 := bt_at a0 x3_2); (replace p7 := eq_true p7); (replace q7 := eq_true q7); go_wp2; (go_roundg k2)
           case measure => have := HJ1.out; have := HK2.out; omega
           case rel => exact ⟨(wrap64 (x3_2 + 1)), (by first | rfl | (simp; done) | (simp [*]; done)), H', ⟨by have := HJ1.out; have := HK2.out; omega⟩, by repeat (first | exact Drawn0.refl _ | apply Drawn0.step)⟩
          ·rw [if_neg c21] at H
           (have c21b0 : decide ((bt a0 x3_2) ≤ 90) = false := decide_eq_false c21); clear c21; (by_cases c22 : (bt a0 x3_2) = 95)
           ·rw [if_pos c22] at H
            (have c22b0 : ((bt a0 x3_2) == 95) = true := beq_iff_eq.mpr c22); (have c22b1 : ((bt a0 x3_2) != 95) = false := bne_eq_false_iff_eq.mpr c22); clear c22; (have H' := qM H); clear H; (have p7 : 0 ≤ (x3_2 : Int) := qo (by first | (with_reducible assumption) | assumption)); (have q7 : x3_2 < (a0.size : Int) := qo (by first | (with_reducible assumption) | assumption)); (have hx7 := bt_at a0 x3_2); (replace p7 := eq_true p7); (replace q7 := eq_true q7); go_wp2; (go_roundg k2)
            case measure => have := HJ1.out; have := HK2.out; omega
            case rel => exact ⟨(wrap64 (x3_2 + 1)), (by first | rfl | (simp; done) | (simp [*]; done)), H', ⟨by have := HJ1.out; have := HK2.out; omega⟩, by repeat (first | exact Drawn0.refl _ | apply Drawn0.step)⟩
           ·rw [if_neg c22] at H
            (have c22b0 : ((bt a0 x3_2) == 95) = false := beq_eq_false_iff_ne.mpr c22); (have c22b1 : ((bt a0 x3_2) != 95) = true := bne_iff_ne.mpr c22); (by_cases c23 : x3_2 > 0)
            ·rw [if_pos c23] at H
             (have c23b0 : decide (0 < x3_2) = true := decide_eq_true c23); clear c23; (by_cases c24 : (bt a0 x3_2) ≥ 48)
             ·rw [if_pos c24] at H
              (have c24b0 : decide (48 ≤ (bt a0 x3_2)) = true := decide_eq_true c24); clear c24; (by_cases c25 : ((bt a0 x3_2) ≤ 57))
              ·rw [if_pos c25] at H
               (have c25b0 : decide ((bt a0 x3_2) ≤ 57) = true := decide_eq_true c25); clear c25; (have H' := qM H); clear H; (have p7 : 0 ≤ (x3_2 : Int) := qo (by first | (with_reducible assumption) | assumption)); (have q7 : x3_2 < (a0.size : Int) := qo (by first | (with_reducible assumption) | assumption)); (have hx7 := bt_at a0 x3_2); (replace p7 := eq_true p7); (replace q7 := eq_true q7); go_wp2; (go_roundg k2)
               case measure => have := HJ1.out; have := HK2.out; omega
               case rel => exact ⟨(wrap64 (x3_2 + 1)), (by first | rfl | (simp; done) | (simp [*]; done)), H', ⟨by have := HJ1.out; have := HK2.out; omega⟩, by repeat (first | exact Drawn0.refl _ | apply Drawn0.step)⟩
              ·rw [if_neg c25] at H
               (have c25b0 : decide ((bt a0 x3_2) ≤ 57) = false := decide_eq_false c25); clear c25; (obtain rfl := Option.some.inj H); (have p7 : 0 ≤ (x3_2 : Int) := qo (by first | (with_reducible assumption) | assumption)); (have q7 : x3_2 < (a0.size : Int) := qo (by first | (with_reducible assumption) | assumption)); (have hx7 := bt_at a0 x3_2); (replace p7 := eq_true p7); (replace q7 := eq_true q7); go_wp2; (go_ret); (exact ⟨by first | rfl | (simp; done) | (simp [*]; done), by repeat (first | exact Drawn0.refl _ | apply Drawn0.step)⟩)
             ·rw [if_neg c24] at H
              (have c24b0 : decide (48 ≤ (bt a0 x3_2)) = false := decide_eq_false c24); clear c24; (obtain rfl := Option.some.inj H); (have p7 : 0 ≤ (x3_2 : Int) := qo (by first | (with_reducible assumption) | assumption)); (have q7 : x3_2 < (a0.size : Int) := qo (by first | (with_reducible assumption) | assumption)); (have hx7 := bt_at a0 x3_2); (replace p7 := eq_true p7); (replace q7 := eq_true q7); go_wp2; (go_ret); (exact ⟨by first | rfl | (simp; done) | (simp [*]; done), by repeat (first | exact Drawn0.refl _ | apply Drawn0.step)⟩)
            ·rw [if_neg c23] at H
             (have c23b0 : decide (0 < x3_2) = false := decide_eq_false c23); clear c23; (obtain rfl := Option.some.inj H); (have p7 : 0 ≤ (x3_2 : Int) := qo (by first | (with_reducible assumption) | assumption)); (have q7 : x3_2 < (a0.size : Int) := qo (by first | (with_reducible assumption) | assumption)); (have hx7 := bt_at a0 x3_2); (replace p7 := eq_true p7); (replace q7 := eq_true q7); go_wp2; (go_ret); (exact ⟨by first | rfl | (simp; done) | (simp [*]; done), by repeat (first | exact Drawn0.refl _ | apply Drawn0.step)⟩)
         ·rw [if_neg c20] at H
          (have c20b0 : decide (65 ≤ (bt a0 x3_2)) = false := decide_eq_false c20); clear c20; (by_cases c26 : (bt a0 x3_2) = 95)
          ·rw [if_pos c26] at H
           (have c26b0 : ((bt a0 x3_2) == 95) = true := beq_iff_eq.mpr c26); (have c26b1 : ((bt a0 x3_2) != 95) = false := bne_eq_false_iff_eq.mpr c26); clear c26; (have H' := qM H); clear H; (have p7 : 0 ≤ (x3_2 : Int) := qo (by first | (with_reducible assumption) | assumption)); (have q7 : x3_2 < (a0.size : Int) := qo (by first | (with_reducible assumption) | assumption)); (have hx7 := bt_at a0 x3_2); (replace p7 := eq_true p7); (replace q7 := eq_true q7); go_wp2; (go_roundg k2)
           case measure => have := HJ1.out; have := HK2.out; omega
           case rel => exact ⟨(wrap64 (x3_2 + 1)), (by first | rfl | (simp; done) | (simp [*]; done)), H', ⟨by have := HJ1.out; have := HK2.out; omega⟩, by repeat (first | exact Drawn0.refl _ | apply Drawn0.step)⟩
          ·rw [if_neg c26] at H
           (have c26b0 : ((bt a0 x3_2) == 95) = false := beq_eq_false_iff_ne.mpr c26); (have c26b1 : ((bt a0 x3_2) != 95) = true := bne_iff_ne.mpr c26); (by_cases c27 : x3_2 > 0)
           ·rw [if_pos c27] at H
            (have c27b0 : decide (0 < x3_2) = true := decide_eq_true c27); clear c27; (by_cases c28 : (bt a0 x3_2) ≥ 48)
            ·rw [if_pos c28] at H
             (have c28b0 : decide (48 ≤ (bt a0 x3_2)) = true := decide_eq_true c28); clear c28; (by_cases c29 : ((bt a0 x3_2) ≤ 57))
             ·rw [if_pos c29] at H
              (have c29b0 : decide ((bt a0 x3_2) ≤ 57) = true := decide_eq_true c29); clear c29; (have H' := qM H); clear H; (have p7 : 0 ≤ (x3_2 : Int) := qo (by first | (with_reducible assumption) | assumption)); (have q7 : x3_2 < (a0.size : Int) := qo (by first | (with_reducible assumption) | assumption)); (have hx7 := bt_at a0 x3_2); (replace p7 := eq_true p7); (replace q7 := eq_true q7); go_wp2; (go_roundg k2)
              case measure => have := HJ1.out; have := HK2.out; omega
              case rel => exact ⟨(wrap64 (x3_2 + 1)), (by first | rfl | (simp; done) | (simp [*]; done)), H', ⟨by have := HJ1.out; have := HK2.out; omega⟩, by repeat (first | exact Drawn0.refl _ | apply Drawn0.step)⟩
             ·rw [if_neg c29] at H
              (have c29b0 : decide ((bt a0 x3_2) ≤ 57) = false := decide_eq_false c29); clear c29; (obtain rfl := Option.some.inj H); (have p7 : 0 ≤ (x3_2 : Int) := qo (by first | (with_reducible assumption) | assumption)); (have q7 : x3_2 < (a0.size : Int) := qo (by first | (with_reducible assumption) | assumption)); (have hx7 := bt_at a0 x3_2); (replace p7 := eq_true p7); (replace q7 := eq_true q7); go_wp2; (go_ret); (exact ⟨by first | rfl | (simp; done) | (simp [*]; done), by repeat (first | exact Drawn0.refl _ | apply Drawn0.step)⟩)
            ·rw [if_neg c28] at H
             (have c28b0 : decide (48 ≤ (bt a0 x3_2)) = false := decide_eq_false c28); clear c28; (obtain rfl := Option.some.inj H); (have p7 : 0 ≤ (x3_2 : Int) := qo (by first | (with_reducible assumption) | assumption)); (have q7 : x3_2 < (a0.size : Int) := qo (by first | (with_reducible assumption) | assumption)); (have hx7 := bt_at a0 x3_2); (replace p7 := eq_true p7); (replace q7 := eq_true q7); go_wp2; (go_ret); (exact ⟨by first | rfl | (simp; done) | (simp [*]; done), by repeat (first | exact Drawn0.refl _ | apply Drawn0.step)⟩)
           ·rw [if_neg c27] at H
            (have c27b0 : decide (0 < x3_2) = false := decide_eq_false c27); clear c27; (obtain rfl := Option.some.inj H); (have p7 : 0 ≤ (x3_2 : Int) := qo (by first | (with_reducible assumption) | assumption)); (have q7 : x3_2 < (a0.size : Int) := qo (by first | (with_reducible assumption) | assumption)); (have hx7 := bt_at a0 x3_2); (replace p7 := eq_true p7); (replace q7 := eq_true q7); go_wp2; (go_ret); (exact ⟨by first | rfl | (simp; done) | (simp [*]; done), by repeat (first | exact Drawn0.refl _ | apply Drawn0.step)⟩)
       ·rw [if_neg c6] at H
        exact absurd H (by simp)
      ·rw [if_neg c5] at H
       (have c5b0 : decide (x3_2 < (a0.size : Int)) = false := decide_eq_false c5); clear c5; (obtain rfl := Option.some.inj H); go_wp2; (go_ret); (exact ⟨by first | rfl | (simp; done) | (simp [*]; done), by repeat (first | exact Drawn0.refl _ | apply Drawn0.step)⟩)
end Go.Proofs.YtlpkkkkgbnoiiaaDoor.H
end
section
namespace Go.Proofs.YtlpkkkkgbnoiiaaDoor.H
open Go.RowKit Go.Proofs.YtlpkkkkgbnoiiaaDoorW.PrintWords Go.Proofs.YtlpkkkkgbnoiiaaDoorW.PrintLast Go.Proofs.YtlpkkkkgbnoiiaaDoorW.PrintMore
open Go.Maps
set_option linter.unusedVariables false
set_option linter.unusedSimpArgs false
def orc (c : UInt8) : Int := bits BinOp.or IntKind.u8 (c.toNat : Int) 32
def letterC (c : UInt8) : Bool := (decide (orc c ≥ 97) && decide (orc c ≤ 122)) || decide (c.toNat = 95)
def nameC (i : Nat) (c : UInt8) : Bool := letterC c || (decide (i ≠ 0) && (decide (48 ≤ c.toNat) && decide (c.toNat ≤ 57)))
def nameFrom : Nat → List UInt8 → Bool
  | _, [] => true
  | i, c :: r => nameC i c && nameFrom (i + 1) r
def isNameOf (s : ByteArray) : Bool := nameFrom 0 s.data.toList && (decide (s.data.toList ≠ []) && decide (s.size ≤ 32))
def text_IsName.f (a0 : ByteArray) : Option Bool := if a0.size ≤ 140737488355328 then some (isNameOf a0) else none
theorem below_bytesWorld (w : World) (e : TypeId) (s : ByteArray) : Below w.heap.size w (Lib.bytesWorld w e s) :=
  ⟨rfl, rfl, rfl, by rw [Lib.bytesWorld_size]; omega, fun k hk => Lib.bytesWorld_at_old w e s k hk⟩
theorem drop_byte (s : ByteArray) (k : Nat) (h : k < s.size) : s.data.toList.drop k = (s.data.toList.getD k 0) :: s.data.toList.drop (k + 1) := by
  have h2 : k < s.data.toList.length := by simpa using h
  rw [List.drop_eq_getElem_cons h2]
  simp [List.getD_eq_getElem?_getD, List.getElem?_eq_getElem h2]
set_option maxRecDepth 100000 in
set_option maxHeartbeats 4000000 in
theorem text_IsName.calls (a0 : ByteArray) (r : Bool) (w : World) (h : text_IsName.f a0 = some r) :
    Calls Tryd.prog 22 #[.string a0] w fun e w' => e = .returned (.bool r) ∧ Below w.heap.size w w' := by
  unfold text_IsName.f at h
  split at h
  case isFalse => cases h
  rename_i hs
  have HP := Aside0.mk (Option.some.inj h)
  clear h
  have hcv := fun W : World => Lib.run_convert_string_bytes (P := Tryd.prog) W 9 52 5 a0 Tryd.underlying9 Tryd.underlying52 Tryd.underlying5
  have HBW := Aside0.mk (below_bytesWorld w 5 a0)
  have HCE := Aside0.mk (fun j hj => Lib.bytesWorld_cell w 5 a0 j hj)
  go_enter Tryd.func22, Tryd.ntmps22
  go_wp2
  obtain ⟨W, hW⟩ : ∃ W, Lib.bytesWorld w 5 a0 = W := ⟨_, rfl⟩
  rw [hW] at HBW HCE ⊢
  clear hcv hW
  go_loop [9] (fun v => ∃ k : Nat, k ≤ a0.size ∧ v = .int .i64 (k : Int) ∧ Aside0 (nameFrom 0 a0.data.toList = nameFrom k (a0.data.toList.drop k))) (fun v => a0.size - (intOf v).toNat)
  case atStart => exact ⟨0, Nat.zero_le _, rfl, ⟨rfl⟩⟩
  case round =>
    obtain ⟨k, hk, rfl, HN⟩ := hrel
    by_cases hlt : k < a0.size
    · have hc := HCE.out k hlt
      have hdr := drop_byte a0 k hlt
      obtain ⟨c, hcc⟩ : ∃ c, a0.data.toList.getD k 0 = c := ⟨_, rfl⟩
      rw [hcc] at hc hdr
      clear hcc
      have HN2 := Aside0.mk (HN.out.trans (show _ = (nameC k c && nameFrom (k + 1) (a0.data.toList.drop (k + 1))) by rw [hdr]; rfl))
      clear hdr HN
      have horc : bits BinOp.or IntKind.u8 (c.toNat : Int) 32 = orc c := rfl
      have h8 := c.toNat_lt
      have step : nameC k c = true → ∃ j : Nat, j ≤ a0.size ∧ (Value.int .i64 ((k : Int) + 1)) = .int .i64 (j : Int) ∧ Aside0 (nameFrom 0 a0.data.toList = nameFrom j (a0.data.toList.drop j)) := fun hh => ⟨k + 1, hlt, by push_cast; rfl, ⟨by rw [HN2.out, hh]; rfl⟩⟩
      have stop : nameC k c = false → isNameOf a0 = false := fun hh => by unfold isNameOf; rw [HN2.out, hh]; rfl
      have STEP := Aside0.mk step
      have STOP := Aside0.mk stop
      clear step stop
      by_cases l1 : orc c ≥ 97
      · have l1b : decide (orc c ≥ 97) = true := by simpa using l1
        by_cases l2 : orc c ≤ 122
        · have l2b : decide (orc c ≤ 122) = true := by simpa using l2
          go_wp2
          go_round
          case rel => exact STEP.out (by simp [nameC, letterC, l1b, l2b])
          case measure => simp [intOf]; omega
        · have l2b : decide (orc c ≤ 122) = false := by simp; omega
          by_cases l3 : c.toNat = 95
          · have l3b : ((c.toNat : Int) == 95) = true := by simp; omega
            go_wp2
            go_round
            case rel => exact STEP.out (by simp [nameC, letterC, l3])
            case measure => simp [intOf]; omega
          have l3b : ((c.toNat : Int) == 95) = false := by simp; omega
          by_cases k0 : k = 0
          · subst k0
            go_wp2
            go_ret
            exact ⟨by rw [← HP.out, STOP.out (by simp [nameC, letterC, l3, l2b])]; rfl, HBW.out⟩
          have k0b : ((k : Int) == 0) = false := by simp; omega
          by_cases d1 : c.toNat < 48
          · have d1b : decide ((c.toNat : Int) < 48) = true := by simp; omega
            go_wp2
            go_ret
            exact ⟨by rw [← HP.out, STOP.out (by simp [nameC, letterC, l3, k0, l2b]; omega)]; rfl, HBW.out⟩
          have d1b : decide ((c.toNat : Int) < 48) = false := by simp; omega
          by_cases d2 : c.toNat > 57
          · have d2b : decide ((c.toNat : Int) > 57) = true := by simp; omega
            go_wp2
            go_ret
            exact ⟨by rw [← HP.out, STOP.out (by simp [nameC, letterC, l3, k0, l2b]; omega)]; rfl, HBW.out⟩
          have d2b : decide ((c.toNat : Int) > 57) = false := by simp; omega
          go_wp2
          go_round
          case rel => exact STEP.out (by simp [nameC, k0]; omega)
          case measure => simp [intOf]; omega
      · have l1b : decide (orc c ≥ 97) = false := by simp; omega
        by_cases l3 : c.toNat = 95
        · have l3b : ((c.toNat : Int) == 95) = true := by simp; omega
          go_wp2
          go_round
          case rel => exact STEP.out (by simp [nameC, letterC, l3])
          case measure => simp [intOf]; omega
        have l3b : ((c.toNat : Int) == 95) = false := by simp; omega
        by_cases k0 : k = 0
        · subst k0
          go_wp2
          go_ret
          exact ⟨by rw [← HP.out, STOP.out (by simp [nameC, letterC, l3, l1b])]; rfl, HBW.out⟩
        have k0b : ((k : Int) == 0) = false := by simp; omega
        by_cases d1 : c.toNat < 48
        · have d1b : decide ((c.toNat : Int) < 48) = true := by simp; omega
          go_wp2
          go_ret
          exact ⟨by rw [← HP.out, STOP.out (by simp [nameC, letterC, l3, k0, l1b]; omega)]; rfl, HBW.out⟩
        have d1b : decide ((c.toNat : Int) < 48) = false := by simp; omega
        by_cases d2 : c.toNat > 57
        · have d2b : decide ((c.toNat : Int) > 57) = true := by simp; omega
          go_wp2
          go_ret
          exact ⟨by rw [← HP.out, STOP.out (by simp [nameC, letterC, l3, k0, l1b]; omega)]; rfl, HBW.out⟩
        have d2b : decide ((c.toNat : Int) > 57) = false := by simp; omega
        go_wp2
        go_round
        case rel => exact STEP.out (by simp [nameC, k0]; omega)
        case measure => simp [intOf]; omega
    · have hke : k = a0.size := by omega
      subst hke
      have HE := Aside0.mk (HN.out.trans (by rw [List.drop_of_length_le (by simp)]; rfl : _ = true))
      clear HN
      by_cases he : a0.data.toList = []
      · have e1 : a0.toList = [] := by rw [ByteArray.toList_eq]; exact he
        have e2 : a0.toList.isEmpty = true := by rw [e1]; rfl
        go_wp2
        go_ret
        exact ⟨by rw [← HP.out]; simp [isNameOf, he], HBW.out⟩
      · have e1 : ¬ a0.toList = [] := by rw [ByteArray.toList_eq]; exact he
        have e2 : a0.toList.isEmpty = false := by simpa using e1
        by_cases h32 : a0.size ≤ 32
        · have h32b : decide ((a0.size : Int) ≤ 32) = true := by simp; omega
          go_wp2
          go_ret
          exact ⟨by rw [← HP.out]; unfold isNameOf; rw [HE.out]; simp [he, h32], HBW.out⟩
        · have h32b : decide ((a0.size : Int) ≤ 32) = false := by simp; omega
          go_wp2
          go_ret
          exact ⟨by rw [← HP.out]; unfold isNameOf; rw [HE.out]; simp [he, h32], HBW.out⟩
end Go.Proofs.YtlpkkkkgbnoiiaaDoor.H
end
