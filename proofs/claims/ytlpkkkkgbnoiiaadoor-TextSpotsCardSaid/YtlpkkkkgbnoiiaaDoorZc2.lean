/- A part (2 of 3) of this proof: Every rune boundary is recovered from its position, and positions order rune boundaries as their offsets do: the law TextSpots returns true for every text and all offsets (where the arguments can be read and the listed package variables hold what the program lays) -/
import Derived.Test.YtlpkkkkgbnoiiaaDoorRows
import Derived.WalkKit
import Derived.ProofKit
import Derived.OpenShut
import Derived.ShutString
import Derived.ChangeOld
import Derived.Below
import Derived.SizedLaws
import Derived.Maps.Own
import Derived.Maps.OwnOps
import Derived.Maps.OwnSet
import Derived.Handy
import Derived.Outline
import Derived.Lib.OthersKept
import Derived.Lib.RuneBytes
import Derived.Lib.RuneLoops
import Derived.Lib.RuneCountTail
import Derived.Lib.TrimU
import Derived.Lib.QuoteLoop
import Derived.Laws.RangeAny
import Derived.Test.YtlpkkkkgbnoiiaaDoorZc1
section
namespace Go.Proofs.YtlpkkkkgbnoiiaaDoor.H
open Go.RowKit Go.ChangeShapes Go.WideShapes Go.ChangeAt Go.Proofs.YtlpkkkkgbnoiiaaDoorW.PrintWords Go.Proofs.YtlpkkkkgbnoiiaaDoorW.PrintLast Go.Proofs.YtlpkkkkgbnoiiaaDoorW.PrintMore
set_option linter.unusedVariables false
set_option linter.unusedSimpArgs false
structure Opens {α : Type} (P : Program) (t : TypeId) (K : Kd α) (ok : α → Prop) (sz : α → Nat) : Prop where
  cells : P.cellsOf t = K.sz
  op : ∀ {H : Type} {enc : TypeId × Value → H} {W : World} {base : Nat} {sp : Nat → Bool} {held : Bool} {n : Nat} {cs : List Value} {x : DataW H × List MemPlace},
    DataW.trod enc P W base sp held n t cs = some x → (∀ u ∈ DataW.weights P t x.1, u ≤ reachBytes) → ∃ v, K.K W v cs ∧ ok v ∧ sz v ≤ Rows.uptoBulk x.1
section
variable {P : Program} {α β : Type} {t e : TypeId}
theorem Opens.imp {K : Kd α} {ok ok' : α → Prop} {sz sz' : α → Nat} (h : Opens P t K ok sz) (hi : ∀ x, ok x → ok' x) (hs : ∀ x, sz' x ≤ sz x) : Opens P t K ok' sz' :=
  ⟨h.cells, fun h0 hw => by obtain ⟨v, hk, ho, hz⟩ := h.op h0 hw; exact ⟨v, hk, hi v ho, Nat.le_trans (hs v) hz⟩⟩
theorem Opens.of {H : Type} {enc : TypeId × Value → H} {W : World} {base : Nat} {sp : Nat → Bool} {held : Bool} {K : Kd α} {ok : α → Prop} {sz : α → Nat} (h : Opens P t K ok sz) {v : Value} {d : DataW H} {ps : List MemPlace} {ts : List TypeId} {ds : List (DataW H)} {j : Nat}
    (hsz : (DataW.weightsEach P ts ds).all (· ≤ reachBytes) = true) (ht : ts[j]? = some t) (hd : ds[j]? = some d) (h0 : DataW.Trod enc P W base sp held t v d ps) : ∃ x, K.K W x v.cells.toList ∧ ok x ∧ sz x ≤ Rows.uptoBulk d := by
  obtain ⟨fuel, hf⟩ := h0
  exact h.op hf (fun u hu => by simpa using List.all_eq_true.1 hsz u (DataW.weights_mem_each ht hd u hu))
end
end Go.Proofs.YtlpkkkkgbnoiiaaDoor.H
end
section
namespace Go.Proofs.YtlpkkkkgbnoiiaaDoor.H
open Go.RowKit Go.ChangeShapes Go.WideShapes Go.ChangeAt Go.Proofs.YtlpkkkkgbnoiiaaDoorW.PrintWords Go.Proofs.YtlpkkkkgbnoiiaaDoorW.PrintLast Go.Proofs.YtlpkkkkgbnoiiaaDoorW.PrintMore
set_option linter.unusedVariables false
end Go.Proofs.YtlpkkkkgbnoiiaaDoor.H
end
section
namespace Go.Proofs.YtlpkkkkgbnoiiaaDoor.H
open Go.RowKit Go.Proofs.YtlpkkkkgbnoiiaaDoorW.PrintWords Go.Proofs.YtlpkkkkgbnoiiaaDoorW.PrintLast Go.Proofs.YtlpkkkkgbnoiiaaDoorW.PrintMore
open Go.WideMaps Go.Maps
set_option linter.unusedVariables false
set_option linter.unusedSimpArgs false
theorem ba_ext {a b : ByteArray} (h : a.data.toList = b.data.toList) : a = b := by
  cases a; cases b; simp_all
instance decBA : DecidableEq ByteArray := fun a b => decidable_of_iff (a.data.toList = b.data.toList) ⟨ba_ext, fun h => by rw [h]⟩
instance decMemBA (s : ByteArray) (l : List ByteArray) : Decidable (s ∈ l) := decidable_of_iff (l.any (fun y => decide (y = s)) = true) (by simp)
end Go.Proofs.YtlpkkkkgbnoiiaaDoor.H
end
section
namespace Go.Proofs.YtlpkkkkgbnoiiaaDoor.H
open Go.RowKit Go.Proofs.YtlpkkkkgbnoiiaaDoorW.PrintWords Go.Proofs.YtlpkkkkgbnoiiaaDoorW.PrintLast Go.Proofs.YtlpkkkkgbnoiiaaDoorW.PrintMore
attribute [local go_sem] max2_int min2_int max_two min_two max_three min_three max_four min_four
set_option linter.unusedVariables false
set_option linter.unusedSimpArgs false
theorem eqA25 (d : Nat) (w : World) (x0 y0 : Int) (x1 y1 : Int) :
  (Op.equalIn (d + 2) 25 (.agg #[.int .i64 x0, .int .i64 x1]) (.agg #[.int .i64 y0, .int .i64 y1])).run Tryd.prog w = .ok (x0 == y0 && (x1 == y1)) w := by
 (refine eqA_of Tryd.underlying25 (by kernel_rfl) ?_); (refine eqf_cons (by rfl) (by go_simp; rfl) (by go_simp; rfl) (by go_simp) ?_); (exact eqf_last (by rfl) (by go_simp; rfl) (by go_simp; rfl) (by go_simp))
end Go.Proofs.YtlpkkkkgbnoiiaaDoor.H
end
section
namespace Go.Proofs.YtlpkkkkgbnoiiaaDoor.H
open Go.RowKit
set_option linter.unusedVariables false
set_option linter.unusedSimpArgs false
theorem rune_w_pos (s : ByteArray) (pos : Nat) : 1 ≤ (Utf8.decode s pos).2 := Lib.width_pos s pos
theorem rune_w_le (s : ByteArray) (pos : Nat) (h : pos < s.size) : pos + (Utf8.decode s pos).2 ≤ s.size := by
  have h1 := Lib.tail_decode s pos 0
  have h2 := Lib.width_le (s.extract pos s.size) (by simp; omega)
  rw [Lib.tail_decode] at h2
  simp at h2
  omega
def seamsFrom (s : ByteArray) : Nat → Nat → Int → Int → List (Int × Int × Int)
  | 0, _, l, c => [((s.size : Int), l, c)]
  | f + 1, pos, l, c => if pos < s.size then ((pos : Int), l, c) :: (if (Utf8.decode s pos).1 = 10 then seamsFrom s f (pos + (Utf8.decode s pos).2) (l + 1) 1 else seamsFrom s f (pos + (Utf8.decode s pos).2) l (c + 1)) else [((s.size : Int), l, c)]
def seamsL (s : ByteArray) : List (Int × Int × Int) := seamsFrom s s.size 0 1 1
theorem seamsFrom_end (s : ByteArray) (f pos : Nat) (l c : Int) (h : ¬ pos < s.size) : seamsFrom s f pos l c = [((s.size : Int), l, c)] := by
  cases f <;> simp [seamsFrom, h]
def runesFrom (s : ByteArray) : Nat → Nat → List S41
  | 0, _ => []
  | f + 1, pos => if pos < s.size then ⟨((Utf8.decode s pos).1 : Int), (pos : Int), ((Utf8.decode s pos).2 : Int)⟩ :: runesFrom s f (pos + (Utf8.decode s pos).2) else []
def runesL (s : ByteArray) : List S41 := runesFrom s s.size 0
theorem runesFrom_end (s : ByteArray) (f pos : Nat) (h : ¬ pos < s.size) : runesFrom s f pos = [] := by
  cases f <;> simp [runesFrom, h]
end Go.Proofs.YtlpkkkkgbnoiiaaDoor.H
end
section
namespace Go.Proofs.YtlpkkkkgbnoiiaaDoor.H
open Go.RowKit Go.Proofs.YtlpkkkkgbnoiiaaDoorW.PrintWords Go.Proofs.YtlpkkkkgbnoiiaaDoorW.PrintLast Go.Proofs.YtlpkkkkgbnoiiaaDoorW.PrintMore
attribute [local go_sem] max2_int min2_int max_two min_two max_three min_three max_four min_four
set_option linter.unusedVariables false
set_option linter.unusedSimpArgs false
def utf8_ValidRune.j0 : Nat → Int → Bool → Option (Bool)
 | 0, _, _ => none
 | k + 1, x0, x3 => if x3 = true then (some true) else (if 57343 < x0 then (if x0 ≤ 1114111 then (some true) else (some false)) else (some false))
def utf8_ValidRune.f (k : Nat) (a0 : Int) : Option (Bool) := if 0 ≤ a0 then (utf8_ValidRune.j0 k a0 (decide (a0 < 55296))) else (utf8_ValidRune.j0 k a0 false)
theorem utf8_ValidRune.mono_l : ∀ k, (∀ y0 y1, LeO (utf8_ValidRune.j0 k y0 y1) (utf8_ValidRune.j0 (k + 1) y0 y1))
 | 0 => fun _ _ r h => by simp [utf8_ValidRune.j0] at h
 | k + 1 => by
  have ih0 := utf8_ValidRune.mono_l k
  ·intro y0 y1
   unfold utf8_ValidRune.j0
   repeat' first
   | (with_reducible exact ih0 _ _)
   | (with_reducible exact LeO.refl _)
   | (with_reducible exact LeO.none _)
   | (with_reducible refine LeO.ite ?_ ?_)
   | (with_reducible refine LeO.bind ?_ (fun _ => ?_))
   | exact ih0 _ _
   | exact LeO.none _
   | refine LeO.ite ?_ ?_
   | refine LeO.bind ?_ (fun _ => ?_)
theorem utf8_ValidRune.mono : ∀ a0 k, LeO (utf8_ValidRune.f k a0) (utf8_ValidRune.f (k + 1) a0) := by
 (intro a0 k); (have ih0 := utf8_ValidRune.mono_l k); (unfold utf8_ValidRune.f)
 repeat' first
   | (with_reducible exact ih0 _ _)
   | (with_reducible exact LeO.refl _)
   | (with_reducible exact LeO.none _)
   | (with_reducible refine LeO.ite ?_ ?_)
   | (with_reducible refine LeO.bind ?_ (fun _ => ?_))
   | exact ih0 _ _
   | exact LeO.none _
   | refine LeO.ite ?_ ?_
   | refine LeO.bind ?_ (fun _ => ?_)
set_option maxHeartbeats 8000000 in
set_option maxRecDepth 100000 in
theorem utf8_ValidRune.calls (k : Nat) (a0 : Int) (r : Bool) (w : World) (h : utf8_ValidRune.f k a0 = some r) :
  Calls Tryd.prog 52 #[.int .i32 a0] w fun e w' => e = .returned (.bool r) ∧ Drawn0 w w' := by
 (have H : (if 0 ≤ a0 then (utf8_ValidRune.j0 k a0 (decide (a0 < 55296))) else (utf8_ValidRune.j0 k a0 false)) = some r := h); clear h; (have HC2 := qM H); clear H; (go_enter Tryd.func52, Tryd.ntmps52); (go_upto_region 1 with (fail)); (go_cut [3] (fun v3 wc => ∃ (kq : Nat) (x3_1 : Bool), v3 = .bool x3_1 ∧ Aside0 (utf8_ValidRune.j0 kq a0 x3_1 = some r) ∧ Aside0 (kq ≤ k) ∧ Drawn0 w wc))
 case first =>
  (have H := HC2.out); clear HC2; (by_cases c3 : 0 ≤ a0)
  ·rw [if_pos c3] at H
   (have c3b0 : decide (0 ≤ a0) = true := decide_eq_true c3); clear c3; ((first | rw [c3b0] | (simp only [i64_w, i32_w]; rw [c3b0]) | skip)); (have H' := qM H); clear H; go_wp2; go_meet
   case rel => exact ⟨_, (decide (a0 < 55296)), (by first | rfl | (simp; done) | (simp [*]; done)), H', ⟨by first | omega | exact Nat.le_refl _⟩, by repeat (first | exact Drawn0.refl _ | apply Drawn0.step)⟩
  ·rw [if_neg c3] at H
   (have c3b0 : decide (0 ≤ a0) = false := decide_eq_false c3); clear c3; ((first | rw [c3b0] | (simp only [i64_w, i32_w]; rw [c3b0]) | skip)); (have H' := qM H); clear H; go_wp2; go_meet
   case rel => exact ⟨_, (false), (by first | rfl | (simp; done) | (simp [*]; done)), H', ⟨by first | omega | exact Nat.le_refl _⟩, by repeat (first | exact Drawn0.refl _ | apply Drawn0.step)⟩
 case rest =>
  clear HC2; (try clear p2); (try clear c3); (try clear c3b0); (obtain ⟨kq, x3_1, rfl, HA, HJ1, ⟨mc1, rfl⟩⟩ := hcut)
  cases kq with
  | zero => exact absurd HA.out (by simp [utf8_ValidRune.j0])
  | succ kj1 =>
   (have H := HA.out); clear HA; (simp only [utf8_ValidRune.j0] at H); (by_cases c4 : x3_1 = true)
   ·subst c4
    (have H1 : (some true) = some r := by rw [if_pos rfl] at H; exact H); clear H; (have H := H1); clear H1; (obtain rfl := Option.some.inj H); go_wp2; (go_ret); (exact ⟨by first | rfl | (simp; done) | (simp [*]; done), by repeat (first | exact Drawn0.refl _ | apply Drawn0.step)⟩)
   ·replace c4 := Bool.eq_false_iff.mpr c4
    subst c4; (have H1 : (if 57343 < a0 then (if a0 ≤ 1114111 then (some true) else (some false)) else (some false)) = some r := by rw [if_neg (show ¬ (false = true) by decide)] at H; exact H); clear H; (have H := H1); clear H1; (by_cases c5 : 57343 < a0)
    ·rw [if_pos c5] at H
     (have c5b0 : decide (57343 < a0) = true := decide_eq_true c5); clear c5; (by_cases c6 : a0 ≤ 1114111)
     ·rw [if_pos c6] at H
      (have c6b0 : decide (a0 ≤ 1114111) = true := decide_eq_true c6); clear c6; (obtain rfl := Option.some.inj H); go_wp2; (go_ret); (exact ⟨by first | rfl | (simp; done) | (simp [*]; done), by repeat (first | exact Drawn0.refl _ | apply Drawn0.step)⟩)
     ·rw [if_neg c6] at H
      (have c6b0 : decide (a0 ≤ 1114111) = false := decide_eq_false c6); clear c6; (obtain rfl := Option.some.inj H); go_wp2; (go_ret); (exact ⟨by first | rfl | (simp; done) | (simp [*]; done), by repeat (first | exact Drawn0.refl _ | apply Drawn0.step)⟩)
    ·rw [if_neg c5] at H
     (have c5b0 : decide (57343 < a0) = false := decide_eq_false c5); clear c5; (obtain rfl := Option.some.inj H); go_wp2; (go_ret); (exact ⟨by first | rfl | (simp; done) | (simp [*]; done), by repeat (first | exact Drawn0.refl _ | apply Drawn0.step)⟩)
def arboristlaw01_few.f (a0 : ByteArray) : Option (Bool) := some (decide ((a0.size : Int) ≤ 300))
set_option maxHeartbeats 8000000 in
set_option maxRecDepth 100000 in
theorem arboristlaw01_few.calls (a0 : ByteArray) (r : Bool) (w : World) (h : arboristlaw01_few.f a0 = some r) :
  Calls Tryd.prog 9 #[.string a0] w fun e w' => e = .returned (.bool r) ∧ Drawn0 w w' := by
 (have H : (some (decide ((a0.size : Int) ≤ 300))) = some r := h); clear h; (obtain rfl := Option.some.inj H); (go_enter Tryd.func9, Tryd.ntmps9); go_wp2; (go_ret); (exact ⟨by first | rfl | (simp; done) | (simp [*]; done), by repeat (first | exact Drawn0.refl _ | apply Drawn0.step)⟩)
end Go.Proofs.YtlpkkkkgbnoiiaaDoor.H
end
section
namespace Go.Proofs.YtlpkkkkgbnoiiaaDoor.H
open Go.RowKit Go.Proofs.YtlpkkkkgbnoiiaaDoorW.PrintWords Go.Proofs.YtlpkkkkgbnoiiaaDoorW.PrintLast Go.Proofs.YtlpkkkkgbnoiiaaDoorW.PrintMore
open Go.Maps
set_option linter.unusedVariables false
set_option linter.unusedSimpArgs false
end Go.Proofs.YtlpkkkkgbnoiiaaDoor.H
end
section
namespace Go.Proofs.YtlpkkkkgbnoiiaaDoor.H
open Go.RowKit Go.Proofs.YtlpkkkkgbnoiiaaDoorW.PrintWords Go.Proofs.YtlpkkkkgbnoiiaaDoorW.PrintLast Go.Proofs.YtlpkkkkgbnoiiaaDoorW.PrintMore
attribute [local go_sem] max2_int min2_int max_two min_two max_three min_three max_four min_four
set_option linter.unusedVariables false
set_option linter.unusedSimpArgs false


theorem eqA41 (d : Nat) (w : World) (x0 y0 : Int) (x1 y1 : Int) (x2 y2 : Int) :
  (Op.equalIn (d + 2) 41 (.agg #[.int .i32 x0, .int .i64 x1, .int .i64 x2]) (.agg #[.int .i32 y0, .int .i64 y1, .int .i64 y2])).run Tryd.prog w = .ok (x0 == y0 && (x1 == y1 && (x2 == y2))) w := by
 (refine eqA_of Tryd.underlying41 (by kernel_rfl) ?_); (refine eqf_cons (by rfl) (by go_simp; rfl) (by go_simp; rfl) (by go_simp) ?_); (refine eqf_cons (by rfl) (by go_simp; rfl) (by go_simp; rfl) (by go_simp) ?_); (exact eqf_last (by rfl) (by go_simp; rfl) (by go_simp; rfl) (by go_simp))
attribute [local go_sem high] eqA41
end Go.Proofs.YtlpkkkkgbnoiiaaDoor.H
end
