/- A part (2 of 3) of this proof: text.Quote encodes any text as the reference does, and text.Unquote decodes it whatever follows: the law TextQuotes returns true for every two texts (where the arguments can be read and the listed package variables hold what the program lays) -/
import Derived.Test.YtlpkkkkgbnoiiaaDoorRows
import Derived.WalkKit
import Derived.ProofKit
import Derived.OpenShut
import Derived.ShutString
import Derived.ChangeOld
import Derived.Below
import Derived.SizedLaws
import Derived.Maps.Own
import Derived.Maps.OwnOps
import Derived.Maps.OwnSet
import Derived.Handy
import Derived.Outline
import Derived.Lib.OthersKept
import Derived.Lib.RuneBytes
import Derived.Lib.RuneLoops
import Derived.Lib.RuneCountTail
import Derived.Lib.TrimU
import Derived.Lib.QuoteLoop
import Derived.Laws.RangeAny
import Derived.Test.YtlpkkkkgbnoiiaaDoorZd1
section
namespace Go.Proofs.YtlpkkkkgbnoiiaaDoor.H
open Go.RowKit Go.ChangeShapes Go.WideShapes Go.ChangeAt Go.Proofs.YtlpkkkkgbnoiiaaDoorW.PrintWords Go.Proofs.YtlpkkkkgbnoiiaaDoorW.PrintLast Go.Proofs.YtlpkkkkgbnoiiaaDoorW.PrintMore
set_option linter.unusedVariables false
set_option linter.unusedSimpArgs false
structure Opens {α : Type} (P : Program) (t : TypeId) (K : Kd α) (ok : α → Prop) (sz : α → Nat) : Prop where
  cells : P.cellsOf t = K.sz
  op : ∀ {H : Type} {enc : TypeId × Value → H} {W : World} {base : Nat} {sp : Nat → Bool} {held : Bool} {n : Nat} {cs : List Value} {x : DataW H × List MemPlace},
    DataW.trod enc P W base sp held n t cs = some x → (∀ u ∈ DataW.weights P t x.1, u ≤ reachBytes) → ∃ v, K.K W v cs ∧ ok v ∧ sz v ≤ Rows.uptoBulk x.1
section
variable {P : Program} {α β : Type} {t e : TypeId}
theorem Opens.imp {K : Kd α} {ok ok' : α → Prop} {sz sz' : α → Nat} (h : Opens P t K ok sz) (hi : ∀ x, ok x → ok' x) (hs : ∀ x, sz' x ≤ sz x) : Opens P t K ok' sz' :=
  ⟨h.cells, fun h0 hw => by obtain ⟨v, hk, ho, hz⟩ := h.op h0 hw; exact ⟨v, hk, hi v ho, Nat.le_trans (hs v) hz⟩⟩
theorem Opens.of {H : Type} {enc : TypeId × Value → H} {W : World} {base : Nat} {sp : Nat → Bool} {held : Bool} {K : Kd α} {ok : α → Prop} {sz : α → Nat} (h : Opens P t K ok sz) {v : Value} {d : DataW H} {ps : List MemPlace} {ts : List TypeId} {ds : List (DataW H)} {j : Nat}
    (hsz : (DataW.weightsEach P ts ds).all (· ≤ reachBytes) = true) (ht : ts[j]? = some t) (hd : ds[j]? = some d) (h0 : DataW.Trod enc P W base sp held t v d ps) : ∃ x, K.K W x v.cells.toList ∧ ok x ∧ sz x ≤ Rows.uptoBulk d := by
  obtain ⟨fuel, hf⟩ := h0
  exact h.op hf (fun u hu => by simpa using List.all_eq_true.1 hsz u (DataW.weights_mem_each ht hd u hu))
end
end Go.Proofs.YtlpkkkkgbnoiiaaDoor.H
end
section
namespace Go.Proofs.YtlpkkkkgbnoiiaaDoor.H
open Go.RowKit Go.ChangeShapes Go.WideShapes Go.ChangeAt Go.Proofs.YtlpkkkkgbnoiiaaDoorW.PrintWords Go.Proofs.YtlpkkkkgbnoiiaaDoorW.PrintLast Go.Proofs.YtlpkkkkgbnoiiaaDoorW.PrintMore
set_option linter.unusedVariables false
end Go.Proofs.YtlpkkkkgbnoiiaaDoor.H
end
section
namespace Go.Proofs.YtlpkkkkgbnoiiaaDoor.H
open Go.RowKit Go.Proofs.YtlpkkkkgbnoiiaaDoorW.PrintWords Go.Proofs.YtlpkkkkgbnoiiaaDoorW.PrintLast Go.Proofs.YtlpkkkkgbnoiiaaDoorW.PrintMore
open Go.WideMaps Go.Maps
set_option linter.unusedVariables false
set_option linter.unusedSimpArgs false
theorem ba_ext {a b : ByteArray} (h : a.data.toList = b.data.toList) : a = b := by
  cases a; cases b; simp_all
instance decBA : DecidableEq ByteArray := fun a b => decidable_of_iff (a.data.toList = b.data.toList) ⟨ba_ext, fun h => by rw [h]⟩
instance decMemBA (s : ByteArray) (l : List ByteArray) : Decidable (s ∈ l) := decidable_of_iff (l.any (fun y => decide (y = s)) = true) (by simp)
end Go.Proofs.YtlpkkkkgbnoiiaaDoor.H
end
section
namespace Go.Proofs.YtlpkkkkgbnoiiaaDoor.H
open Go.RowKit Go.Proofs.YtlpkkkkgbnoiiaaDoorW.PrintWords Go.Proofs.YtlpkkkkgbnoiiaaDoorW.PrintLast Go.Proofs.YtlpkkkkgbnoiiaaDoorW.PrintMore
attribute [local go_sem] max2_int min2_int max_two min_two max_three min_three max_four min_four
set_option linter.unusedVariables false
set_option linter.unusedSimpArgs false
theorem eqA25 (d : Nat) (w : World) (x0 y0 : Int) (x1 y1 : Int) :
  (Op.equalIn (d + 2) 25 (.agg #[.int .i64 x0, .int .i64 x1]) (.agg #[.int .i64 y0, .int .i64 y1])).run Tryd.prog w = .ok (x0 == y0 && (x1 == y1)) w := by
 (refine eqA_of Tryd.underlying25 (by kernel_rfl) ?_); (refine eqf_cons (by rfl) (by go_simp; rfl) (by go_simp; rfl) (by go_simp) ?_); (exact eqf_last (by rfl) (by go_simp; rfl) (by go_simp; rfl) (by go_simp))
end Go.Proofs.YtlpkkkkgbnoiiaaDoor.H
end
section
namespace Go.Proofs.YtlpkkkkgbnoiiaaDoor.H
open Go.RowKit
set_option linter.unusedVariables false
set_option linter.unusedSimpArgs false
theorem rune_w_pos (s : ByteArray) (pos : Nat) : 1 ≤ (Utf8.decode s pos).2 := Lib.width_pos s pos
theorem rune_w_le (s : ByteArray) (pos : Nat) (h : pos < s.size) : pos + (Utf8.decode s pos).2 ≤ s.size := by
  have h1 := Lib.tail_decode s pos 0
  have h2 := Lib.width_le (s.extract pos s.size) (by simp; omega)
  rw [Lib.tail_decode] at h2
  simp at h2
  omega
def seamsFrom (s : ByteArray) : Nat → Nat → Int → Int → List (Int × Int × Int)
  | 0, _, l, c => [((s.size : Int), l, c)]
  | f + 1, pos, l, c => if pos < s.size then ((pos : Int), l, c) :: (if (Utf8.decode s pos).1 = 10 then seamsFrom s f (pos + (Utf8.decode s pos).2) (l + 1) 1 else seamsFrom s f (pos + (Utf8.decode s pos).2) l (c + 1)) else [((s.size : Int), l, c)]
def seamsL (s : ByteArray) : List (Int × Int × Int) := seamsFrom s s.size 0 1 1
theorem seamsFrom_end (s : ByteArray) (f pos : Nat) (l c : Int) (h : ¬ pos < s.size) : seamsFrom s f pos l c = [((s.size : Int), l, c)] := by
  cases f <;> simp [seamsFrom, h]
def runesFrom (s : ByteArray) : Nat → Nat → List S41
  | 0, _ => []
  | f + 1, pos => if pos < s.size then ⟨((Utf8.decode s pos).1 : Int), (pos : Int), ((Utf8.decode s pos).2 : Int)⟩ :: runesFrom s f (pos + (Utf8.decode s pos).2) else []
def runesL (s : ByteArray) : List S41 := runesFrom s s.size 0
theorem runesFrom_end (s : ByteArray) (f pos : Nat) (h : ¬ pos < s.size) : runesFrom s f pos = [] := by
  cases f <;> simp [runesFrom, h]
end Go.Proofs.YtlpkkkkgbnoiiaaDoor.H
end
section
namespace Go.Proofs.YtlpkkkkgbnoiiaaDoor.H
open Go.RowKit Go.Proofs.YtlpkkkkgbnoiiaaDoorW.PrintWords Go.Proofs.YtlpkkkkgbnoiiaaDoorW.PrintLast Go.Proofs.YtlpkkkkgbnoiiaaDoorW.PrintMore
attribute [local go_sem] max2_int min2_int max_two min_two max_three min_three max_four min_four
set_option linter.unusedVariables false
set_option linter.unusedSimpArgs false
def utf8_ValidRune.j0 : Nat → Int → Bool → Option (Bool)
 | 0, _, _ => none
 | k + 1, x0, x3 => if x3 = true then (some true) else (if 57343 < x0 then (if x0 ≤ 1114111 then (some true) else (some false)) else (some false))
def utf8_ValidRune.f (k : Nat) (a0 : Int) : Option (Bool) := if 0 ≤ a0 then (utf8_ValidRune.j0 k a0 (decide (a0 < 55296))) else (utf8_ValidRune.j0 k a0 false)
theorem utf8_ValidRune.mono_l : ∀ k, (∀ y0 y1, LeO (utf8_ValidRune.j0 k y0 y1) (utf8_ValidRune.j0 (k + 1) y0 y1))
 | 0 => fun _ _ r h => by simp [utf8_ValidRune.j0] at h
 | k + 1 => by
  have ih0 := utf8_ValidRune.mono_l k
  ·intro y0 y1
   unfold utf8_ValidRune.j0
   repeat' first
   | (with_reducible exact ih0 _ _)
   | (with_reducible exact LeO.refl _)
   | (with_reducible exact LeO.none _)
   | (with_reducible refine LeO.ite ?_ ?_)
   | (with_reducible refine LeO.bind ?_ (fun _ => ?_))
   | exact ih0 _ _
   | exact LeO.none _
   | refine LeO.ite ?_ ?_
   | refine LeO.bind ?_ (fun _ => ?_)
theorem utf8_ValidRune.mono : ∀ a0 k, LeO (utf8_ValidRune.f k a0) (utf8_ValidRune.f (k + 1) a0) := by
 (intro a0 k); (have ih0 := utf8_ValidRune.mono_l k); (unfold utf8_ValidRune.f)
 repeat' first
   | (with_reducible exact ih0 _ _)
   | (with_reducible exact LeO.refl _)
   | (with_reducible exact LeO.none _)
   | (with_reducible refine LeO.ite ?_ ?_)
   | (with_reducible refine LeO.bind ?_ (fun _ => ?_))
   | exact ih0 _ _
   | exact LeO.none _
   | refine LeO.ite ?_ ?_
   | refine LeO.bind ?_ (fun _ => ?_)
set_option maxHeartbeats 8000000 in
set_option maxRecDepth 100000 in
theorem utf8_ValidRune.calls (k : Nat) (a0 : Int) (r : Bool) (w : World) (h : utf8_ValidRune.f k a0 = some r) :
  Calls Tryd.prog 52 #[.int .i32 a0] w fun e w' => e = .returned (.bool r) ∧ Drawn0 w w' := by
 (have H : (if 0 ≤ a0 then (utf8_ValidRune.j0 k a0 (decide (a0 < 55296))) else (utf8_ValidRune.j0 k a0 false)) = some r := h); clear h; (have HC2 := qM H); clear H; (go_enter Tryd.func52, Tryd.ntmps52); (go_upto_region 1 with (fail)); (go_cut [3] (fun v3 wc => ∃ (kq : Nat) (x3_1 : Bool), v3 = .bool x3_1 ∧ Aside0 (utf8_ValidRune.j0 kq a0 x3_1 = some r) ∧ Aside0 (kq ≤ k) ∧ Drawn0 w wc))
 case first =>
  (have H := HC2.out); clear HC2; (by_cases c3 : 0 ≤ a0)
  ·rw [if_pos c3] at H
   (have c3b0 : decide (0 ≤ a0) = true := decide_eq_true c3); clear c3; ((first | rw [c3b0] | (simp only [i64_w, i32_w]; rw [c3b0]) | skip)); (have H' := qM H); clear H; go_wp2; go_meet
   case rel => exact ⟨_, (decide (a0 < 55296)), (by first | rfl | (simp; done) | (simp [*]; done)), H', ⟨by first | omega | exact Nat.le_refl _⟩, by repeat (first | exact Drawn0.refl _ | apply Drawn0.step)⟩
  ·rw [if_neg c3] at H
   (have c3b0 : decide (0 ≤ a0) = false := decide_eq_false c3); clear c3; ((first | rw [c3b0] | (simp only [i64_w, i32_w]; rw [c3b0]) | skip)); (have H' := qM H); clear H; go_wp2; go_meet
   case rel => exact ⟨_, (false), (by first | rfl | (simp; done) | (simp [*]; done)), H', ⟨by first | omega | exact Nat.le_refl _⟩, by repeat (first | exact Drawn0.refl _ | apply Drawn0.step)⟩
 case rest =>
  clear HC2; (try clear p2); (try clear c3); (try clear c3b0); (obtain ⟨kq, x3_1, rfl, HA, HJ1, ⟨mc1, rfl⟩⟩ := hcut)
  cases kq with
  | zero => exact absurd HA.out (by simp [utf8_ValidRune.j0])
  | succ kj1 =>
   (have H := HA.out); clear HA; (simp only [utf8_ValidRune.j0] at H); (by_cases c4 : x3_1 = true)
   ·subst c4
    (have H1 : (some true) = some r := by rw [if_pos rfl] at H; exact H); clear H; (have H := H1); clear H1; (obtain rfl := Option.some.inj H); go_wp2; (go_ret); (exact ⟨by first | rfl | (simp; done) | (simp [*]; done), by repeat (first | exact Drawn0.refl _ | apply Drawn0.step)⟩)
   ·replace c4 := Bool.eq_false_iff.mpr c4
    subst c4; (have H1 : (if 57343 < a0 then (if a0 ≤ 1114111 then (some true) else (some false)) else (some false)) = some r := by rw [if_neg (show ¬ (false = true) by decide)] at H; exact H); clear H; (have H := H1); clear H1; (by_cases c5 : 57343 < a0)
    ·rw [if_pos c5] at H
     (have c5b0 : decide (57343 < a0) = true := decide_eq_true c5); clear c5; (by_cases c6 : a0 ≤ 1114111)
     ·rw [if_pos c6] at H
      (have c6b0 : decide (a0 ≤ 1114111) = true := decide_eq_true c6); clear c6; (obtain rfl := Option.some.inj H); go_wp2; (go_ret); (exact ⟨by first | rfl | (simp; done) | (simp [*]; done), by repeat (first | exact Drawn0.refl _ | apply Drawn0.step)⟩)
     ·rw [if_neg c6] at H
      (have c6b0 : decide (a0 ≤ 1114111) = false := decide_eq_false c6); clear c6; (obtain rfl := Option.some.inj H); go_wp2; (go_ret); (exact ⟨by first | rfl | (simp; done) | (simp [*]; done), by repeat (first | exact Drawn0.refl _ | apply Drawn0.step)⟩)
    ·rw [if_neg c5] at H
     (have c5b0 : decide (57343 < a0) = false := decide_eq_false c5); clear c5; (obtain rfl := Option.some.inj H); go_wp2; (go_ret); (exact ⟨by first | rfl | (simp; done) | (simp [*]; done), by repeat (first | exact Drawn0.refl _ | apply Drawn0.step)⟩)
def arboristlaw01_few.f (a0 : ByteArray) : Option (Bool) := some (decide ((a0.size : Int) ≤ 300))
set_option maxHeartbeats 8000000 in
set_option maxRecDepth 100000 in
theorem arboristlaw01_few.calls (a0 : ByteArray) (r : Bool) (w : World) (h : arboristlaw01_few.f a0 = some r) :
  Calls Tryd.prog 9 #[.string a0] w fun e w' => e = .returned (.bool r) ∧ Drawn0 w w' := by
 (have H : (some (decide ((a0.size : Int) ≤ 300))) = some r := h); clear h; (obtain rfl := Option.some.inj H); (go_enter Tryd.func9, Tryd.ntmps9); go_wp2; (go_ret); (exact ⟨by first | rfl | (simp; done) | (simp [*]; done), by repeat (first | exact Drawn0.refl _ | apply Drawn0.step)⟩)
end Go.Proofs.YtlpkkkkgbnoiiaaDoor.H
end
section
namespace Go.Proofs.YtlpkkkkgbnoiiaaDoor.H
open Go.RowKit Go.Proofs.YtlpkkkkgbnoiiaaDoorW.PrintWords Go.Proofs.YtlpkkkkgbnoiiaaDoorW.PrintLast Go.Proofs.YtlpkkkkgbnoiiaaDoorW.PrintMore
open Go.Maps
set_option linter.unusedVariables false
set_option linter.unusedSimpArgs false
def oneOf (s : ByteArray) : Int × Int := if s.size = 0 then (0, 0) else (((Utf8.decode s 0).1 : Int), ((Utf8.decode s 0).2 : Int))
def arboristref01_one.f (a0 : ByteArray) : Option (Int × Int) := some (oneOf a0)
theorem ret_two {a b c d : Int} (h : (a, b) = (c, d)) : Ending.returned (.tuple #[.int .i32 a, .int .i64 b]) = .returned (.tuple #[.int .i32 c, .int .i64 d]) := by
  obtain ⟨rfl, rfl⟩ : a = c ∧ b = d := by simpa using h
  rfl
def OneRel (s : ByteArray) (w : World) (v4 v5 : Value) (wr : World) : Prop :=
  Below w.heap.size w wr ∧ v4 = .int .i64 s.size ∧ ((wr.heap[w.heap.size]? = some (.stringIter s 0) ∧ v5 = .int .i32 0) ∨ (0 < s.size ∧ wr.heap[w.heap.size]? = some (.stringIter s (Utf8.decode s 0).2) ∧ v5 = .int .i32 (Utf8.decode s 0).1))
set_option maxRecDepth 100000 in
set_option maxHeartbeats 1000000 in
theorem arboristref01_one.calls (a0 : ByteArray) (r1 : Int) (r2 : Int) (w : World) (h : arboristref01_one.f a0 = some (r1, r2)) :
    Calls Tryd.prog 30 #[.string a0] w fun e w' => e = .returned (.tuple #[.int .i32 r1, .int .i64 r2]) ∧ Below w.heap.size w w' := by
  have HP := Aside0.mk (Option.some.inj h)
  clear h
  go_enter Tryd.func30, Tryd.ntmps30
  go_wp2
  go_loopw [4, 5] (fun v4 v5 wr => OneRel a0 w v4 v5 wr) (fun _ _ wr => a0.size - wr.iterPos w.heap.size)
  case atStart => exact ⟨below_alloc (Below.refl _ _) _, rfl, .inl ⟨World.iter_heap w a0 0, rfl⟩⟩
  case round =>
    obtain ⟨hB, rfl, (⟨hit, rfl⟩ | ⟨h0, hit, rfl⟩)⟩ := hrel
    · by_cases hp : 0 < a0.size
      · have hnx : ∀ ty, (Instr.next (.pointer (some ⟨w.heap.size, 0, none⟩)) true ty).run Tryd.prog wr = _ := fun ty => Lib.run_next_any_at wr w.heap.size a0 0 ty hit hp
        have hwd := rune_w_pos a0 0
        have hit2 := Lib.iterAt_heap wr w.heap.size a0 0 (0 + (Utf8.decode a0 0).2) hit
        have hb2 := Lib.below_iterAt hB (k := w.heap.size) (Nat.le_refl _) a0 (0 + (Utf8.decode a0 0).2)
        rw [Nat.zero_add] at hit2 hb2
        have HIT := Aside0.mk hit
        have HIT2 := Aside0.mk hit2
        have HB2 := Aside0.mk hb2
        clear hit hit2 hb2 hB
        go_wp2
        go_roundw
        case rel => exact ⟨HB2.out, rfl, .inr ⟨hp, HIT2.out, rfl⟩⟩
        case measure => simp only [World.iterPos, HIT.out, HIT2.out]; omega
      · have hnx : ∀ ty, (Instr.next (.pointer (some ⟨w.heap.size, 0, none⟩)) true ty).run Tryd.prog wr = _ := fun ty => Lib.run_next_end_at wr w.heap.size a0 0 ty hit hp
        have HB := Aside0.mk hB
        clear hit hB
        go_wp2
        go_ret2
        exact ⟨ret_two (by rw [← HP.out]; have hz : a0.size = 0 := (by omega); simp [oneOf, hz]), HB.out⟩
    · by_cases hp : (Utf8.decode a0 0).2 < a0.size
      · have hnx : ∀ ty, (Instr.next (.pointer (some ⟨w.heap.size, 0, none⟩)) true ty).run Tryd.prog wr = _ := fun ty => Lib.run_next_any_at wr w.heap.size a0 _ ty hit hp
        have hwd := rune_w_pos a0 0
        have hb2 := Lib.below_iterAt hB (k := w.heap.size) (Nat.le_refl _) a0 ((Utf8.decode a0 0).2 + (Utf8.decode a0 (Utf8.decode a0 0).2).2)
        have HB2 := Aside0.mk hb2
        clear hit hb2 hB
        have h1 : 0 < ((Utf8.decode a0 0).2 : Int) := by omega
        go_wp2
        go_ret2
        exact ⟨ret_two (by rw [← HP.out]; unfold oneOf; rw [if_neg (by omega)]), HB2.out⟩
      · have hnx : ∀ ty, (Instr.next (.pointer (some ⟨w.heap.size, 0, none⟩)) true ty).run Tryd.prog wr = _ := fun ty => Lib.run_next_end_at wr w.heap.size a0 _ ty hit hp
        have HB := Aside0.mk hB
        clear hit hB
        have hwl := rune_w_le a0 0 h0
        go_wp2
        go_ret2
        exact ⟨ret_two (by rw [← HP.out]; unfold oneOf; rw [if_neg (by omega)]; simp; omega), HB.out⟩
end Go.Proofs.YtlpkkkkgbnoiiaaDoor.H
end
section
namespace Go.Proofs.YtlpkkkkgbnoiiaaDoor.H
open Go.RowKit Go.Proofs.YtlpkkkkgbnoiiaaDoorW.PrintWords Go.Proofs.YtlpkkkkgbnoiiaaDoorW.PrintLast Go.Proofs.YtlpkkkkgbnoiiaaDoorW.PrintMore
attribute [local go_sem] max2_int min2_int max_two min_two max_three min_three max_four min_four
set_option linter.unusedVariables false
set_option linter.unusedSimpArgs false
def arboristref01_Runes.l0 : Nat → ByteArray → List (S41) → Int → Option ((List (S41)))
 | 0, _, _, _ => none
 | k + 1, x0, x3, x4 => if x4 < (x0.size : Int) then (if 0 ≤ x4 then (if x4 ≤ (x0.size : Int) then ((arboristref01_one.f (x0.extract (x4 : Int).toNat x0.size)).bind fun bt118 => (if x3.length < 5864062014805 then (arboristref01_Runes.l0 k x0 (x3 ++ [(⟨bt118.1, x4, bt118.2⟩ : S41)]) (wrap64 (x4 + bt118.2))) else (none))) else (none)) else (none)) else (some x3)
def arboristref01_Runes.f (k : Nat) (a0 : ByteArray) : Option ((List (S41))) := arboristref01_Runes.l0 k a0 ([] : List (S41)) 0
theorem arboristref01_Runes.mono_l : ∀ k, (∀ y0 y1 y2, LeO (arboristref01_Runes.l0 k y0 y1 y2) (arboristref01_Runes.l0 (k + 1) y0 y1 y2))
 | 0 => fun _ _ _ r h => by simp [arboristref01_Runes.l0] at h
 | k + 1 => by
  have ih0 := arboristref01_Runes.mono_l k
  ·intro y0 y1 y2
   unfold arboristref01_Runes.l0
   repeat' first
   | (with_reducible exact ih0 _ _ _)
   | (with_reducible exact LeO.refl _)
   | (with_reducible exact LeO.none _)
   | (with_reducible refine LeO.ite ?_ ?_)
   | (with_reducible refine LeO.bind ?_ (fun _ => ?_))
   | exact ih0 _ _ _
   | exact LeO.none _
   | refine LeO.ite ?_ ?_
   | refine LeO.bind ?_ (fun _ => ?_)
theorem arboristref01_Runes.mono : ∀ a0 k, LeO (arboristref01_Runes.f k a0) (arboristref01_Runes.f (k + 1) a0) := by
 (intro a0 k); (have ih0 := arboristref01_Runes.mono_l k); (unfold arboristref01_Runes.f)
 repeat' first
   | (with_reducible exact ih0 _ _ _)
   | (with_reducible exact LeO.refl _)
   | (with_reducible exact LeO.none _)
   | (with_reducible refine LeO.ite ?_ ?_)
   | (with_reducible refine LeO.bind ?_ (fun _ => ?_))
   | exact ih0 _ _ _
   | exact LeO.none _
   | refine LeO.ite ?_ ?_
   | refine LeO.bind ?_ (fun _ => ?_)
set_option maxHeartbeats 8000000 in
set_option maxRecDepth 100000 in
theorem arboristref01_Runes.calls (k : Nat) (a0 : ByteArray) (r : List (S41)) (w : World) (h : arboristref01_Runes.f k a0 = some r) :
  Calls Tryd.prog 15 #[.string a0] w fun e w' => ∃ v0_ : Value, e = .returned (v0_) ∧ Kd.R k41 41 w' w.heap.size (fun _ => True) v0_ r ∧ Below w.heap.size w w' := by
 (have hu41 := Tryd.underlying41); (have HB := qM (Below.refl w.heap.size w)); (have H : (arboristref01_Runes.l0 k a0 ([] : List (S41)) 0) = some r := h); clear h; (have H' := qM H); clear H; (go_enter Tryd.func15, Tryd.ntmps15); go_wp2; (go_loopg [3, 4] k (fun kq v3 v4 w' => ∃ (x3_1 : List (S41)) (x4_1 : Int), v4 = .int .i64 x4_1 ∧ Aside0 (arboristref01_Runes.l0 kq a0 x3_1 x4_1 = some r) ∧ Aside0 (kq ≤ k) ∧ Aside0 (Kd.R k41 41 w' w.heap.size (fun _ => True) v3 x3_1) ∧ Aside0 (Below w.heap.size w w')))
 case atStart => exact ⟨(([] : List (S41))), (0), (by first | rfl | (simp; done) | (simp [*]; done)), H', ⟨Nat.le_refl _⟩, ⟨by first | exact Kd.R_nil _ _ _ _ _ | exact Kd.N_nil _ _ _ _ _ | exact Kd.V_nil _ _ _ _ _ | exact Kd.Q_nil _ _ _ _ _ | exact Kd.S_nil _ _ _ _ _⟩, ⟨by repeat (first | (with_reducible first | exact HB.out | apply qA | apply qN | apply qD) | exact HB.out)⟩⟩
 case round =>
  (clear H'); (try clear c1); (obtain ⟨x3_1, x4_1, rfl, HA, HK1, HO_3, HB⟩ := hrel)
  cases gk with
  | zero => exact absurd HA.out (by simp [arboristref01_Runes.l0])
  | succ k1 =>
   (have H := HA.out); clear HA; (simp only [arboristref01_Runes.l0] at H); (by_cases c2 : x4_1 < (a0.size : Int))
   ·rw [if_pos c2] at H
    (have c2b0 : decide (x4_1 < (a0.size : Int)) = true := decide_eq_true c2); clear c2; (by_cases c3 : 0 ≤ x4_1)
    ·rw [if_pos c3] at H
     (have c3b0 := eq_true c3); (have c3b1 : decide (0 ≤ x4_1) = true := decide_eq_true c3); clear c3; (by_cases c4 : x4_1 ≤ (a0.size : Int))
     ·rw [if_pos c4] at H
      (have c4b0 := eq_true c4); (have c4b1 : decide (x4_1 ≤ (a0.size : Int)) = true := decide_eq_true c4); clear c4; (replace H := Option.bind_eq_some_iff.mp H); (obtain ⟨⟨t118, t119⟩, A50, H⟩ := H); (replace H : (if x3_1.length < 5864062014805 then (arboristref01_Runes.l0 k1 a0 (x3_1 ++ [(⟨t118, x4_1, t119⟩ : S41)]) (wrap64 (x4_1 + t119))) else (none)) = some r := H); (have A5 := qM A50); clear A50; (by_cases c6 : x3_1.length < 5864062014805)
      ·rw [if_pos c6] at H
       (have LMc6 := qM c6); clear c6; (obtain ⟨y120, hy120⟩ : ∃ y_ : List (S41), y_ = (x3_1 ++ [(⟨t118, x4_1, t119⟩ : S41)]) := ⟨_, rfl⟩); (replace H : (arboristref01_Runes.l0 k1 a0 y120 (wrap64 (x4_1 + t119))) = some r := by first | (rw [hy120]; with_reducible exact H) | (have H2_ := (Option.bind_some _ _).symm.trans H; rw [hy120]; with_reducible exact H2_) | (have H2_ := (Option.bind_some _ _).symm.trans H; with_reducible exact H2_) | with_reducible exact H | (rw [hy120]; exact H) | exact H); (have Ny120 := qM hy120); clear hy120; (have H' := qM H); clear H
       go_wp2_with (first | ((with_reducible refine gate_callee (f := 30) rfl ?_); refine goesL_ (some 15) rfl rfl Tryd.func30 (by kernel_rfl) rfl #[.string (a0.extract (x4_1 : Int).toNat a0.size)] rfl (by (try simp only [List.map_toArray, List.map_cons, List.map_nil]); first | done | rfl | (simp only [List.length_drop, List.length_take]; rfl)) ?_; (with_reducible refine (arboristref01_one.calls (a0.extract (x4_1 : Int).toNat a0.size) t118 t119 _ A5.out).mono ?_); rintro e w7 ⟨rfl, hb⟩; refine ⟨_, rfl, ?_⟩; have n0_ := qM (Kd.R_below (by (with_reducible repeat (first | apply Kd.R_alloc | apply Kd.R_drewN | apply Kd.R_drew)); exact HO_3.out) hb); have n1_ := qM (qP (by repeat (first | (with_reducible first | exact HB.out | apply qA | apply qN | apply qD) | exact HB.out)) hb); clear HO_3; clear HB; have HO_3 := n0_; have HB := n1_; clear n0_ n1_; (try clear hb); (try clear hb2); (try clear hk); (try clear hi)) | ((with_reducible refine gate_builtin (b := .append) (xs := #[.tmp 18, .tmp 23]) rfl ?_); at_builtin; refine Kd.R_append k41 (w0 := w) w.heap.size rfl (.tmp 18) (.tmp 23) 29 41 (.agg #[(.int .i32 0), (.int .i64 0), (.int .i64 0)]) 24 rfl Tryd.underlying29 info41 rfl (by decide) (by omega) u3 x3_1 (⟨t118, x4_1, t119⟩ : S41) [.int .i32 t118, .int .i64 x4_1, .int .i64 t119] (fun _ => True) (fun _ => False) rfl rfl ?aP (fun _ hk => hk.elim) ?aF ?aO ?aB ?aS ?aL ?_; (case aP => exact k41_mkM _ _ _ (⟨t118, x4_1, t119⟩ : S41)); (case aB => exact (by repeat (first | (with_reducible first | exact HB.out | apply qA | apply qN | apply qD) | exact HB.out))); (case aF => exact (fun _ _ => trivial)); (case aO => exact (by (with_reducible repeat (first | apply Kd.R_alloc | apply Kd.R_drewN | apply Kd.R_drew)); exact HO_3.out)); (case aS => exact (qZ (by repeat (first | (with_reducible first | exact HB.out | apply qA | apply qN | apply qD) | exact HB.out)))); (case aL => have := LMc6.out; omega); intro v121 w8 ho hb hg hat; rw [← Ny120.out] at ho; have n0_ := qM (hb); have n1_ := qM (ho); clear HB; clear HO_3; have HB := n0_; have HO122 := n1_; clear n0_ n1_; clear ho hb hg hat))
       go_roundg k1
       case measure => have := HK1.out; omega
       case rel => exact ⟨(y120), (wrap64 (x4_1 + t119)), (by first | rfl | (simp; done) | (simp [*]; done)), H', ⟨by have := HK1.out; omega⟩, ⟨by (with_reducible repeat (first | apply Kd.R_alloc | apply Kd.R_drewN | apply Kd.R_drew)); exact HO122.out⟩, ⟨by repeat (first | (with_reducible first | exact HB.out | apply qA | apply qN | apply qD) | exact HB.out)⟩⟩
      ·rw [if_neg c6] at H
       exact absurd H (by simp)
     ·rw [if_neg c4] at H
      exact absurd H (by simp)
    ·rw [if_neg c3] at H
     exact absurd H (by simp)
   ·rw [if_neg c2] at H
    (have c2b0 : decide (x4_1 < (a0.size : Int)) = false := decide_eq_false c2); clear c2; (obtain rfl := Option.some.inj H); go_wp2; (go_ret); (exact ⟨_, by first | rfl | (simp [errW_none, errW_some] <;> rfl) | (simp [*, errW_none, errW_some] <;> rfl), by (with_reducible repeat (first | apply Kd.R_alloc | apply Kd.R_drewN | apply Kd.R_drew)); exact HO_3.out, by repeat (first | (with_reducible first | exact HB.out | apply qA | apply qN | apply qD) | exact HB.out)⟩)

theorem eqA41 (d : Nat) (w : World) (x0 y0 : Int) (x1 y1 : Int) (x2 y2 : Int) :
  (Op.equalIn (d + 2) 41 (.agg #[.int .i32 x0, .int .i64 x1, .int .i64 x2]) (.agg #[.int .i32 y0, .int .i64 y1, .int .i64 y2])).run Tryd.prog w = .ok (x0 == y0 && (x1 == y1 && (x2 == y2))) w := by
 (refine eqA_of Tryd.underlying41 (by kernel_rfl) ?_); (refine eqf_cons (by rfl) (by go_simp; rfl) (by go_simp; rfl) (by go_simp) ?_); (refine eqf_cons (by rfl) (by go_simp; rfl) (by go_simp; rfl) (by go_simp) ?_); (exact eqf_last (by rfl) (by go_simp; rfl) (by go_simp; rfl) (by go_simp))
attribute [local go_sem high] eqA41
end Go.Proofs.YtlpkkkkgbnoiiaaDoor.H
end
section
namespace Go.Proofs.YtlpkkkkgbnoiiaaDoor.H
open Go.RowKit Go.Proofs.YtlpkkkkgbnoiiaaDoorW.PrintWords Go.Proofs.YtlpkkkkgbnoiiaaDoorW.PrintLast Go.Proofs.YtlpkkkkgbnoiiaaDoorW.PrintMore
set_option linter.unusedVariables false
def Ends {α : Type} (g : Nat → Option α) (v : α) : Prop := ∃ k0, ∀ k, k0 ≤ k → g k = some v
theorem Ends.const {α : Type} (v : α) : Ends (fun _ => some v) v := ⟨0, fun _ _ => rfl⟩
theorem Ends.of_mono {α : Type} {g : Nat → Option α} {v : α} (hm : ∀ k, LeO (g k) (g (k + 1))) (h : ∃ k, g k = some v) : Ends g v := by
  obtain ⟨k, hk⟩ := h
  refine ⟨k, fun m hmk => ?_⟩
  induction m with
  | zero => obtain rfl : k = 0 := by omega
            exact hk
  | succ m ih =>
    rcases Nat.lt_or_ge k (m + 1) with q | q
    · exact hm m v (ih (by omega))
    · obtain rfl : k = m + 1 := by omega
      exact hk
theorem Ends.step {α : Type} {g h : Nat → Option α} {v : α} (e : ∀ k, g (k + 1) = h k) (hh : Ends h v) : Ends g v := by
  obtain ⟨k0, hk⟩ := hh
  refine ⟨k0 + 1, fun k hk1 => ?_⟩
  obtain ⟨m, rfl⟩ : ∃ m, k = m + 1 := ⟨k - 1, by omega⟩
  rw [e]; exact hk m (by omega)
theorem Ends.bind {α β : Type} {f : Nat → Option α} {g : Nat → α → Option β} {a : α} {v : β} (hf : Ends f a) (hg : Ends (fun k => g k a) v) : Ends (fun k => (f k).bind (g k)) v := by
  obtain ⟨k1, h1⟩ := hf
  obtain ⟨k2, h2⟩ := hg
  refine ⟨k1 + k2, fun k hk => ?_⟩
  show (f k).bind (g k) = some v
  rw [h1 k (by omega)]; exact h2 k (by omega)
theorem Ends.bind0 {α β : Type} {f : Option α} {g : Nat → α → Option β} {a : α} {v : β} (hf : f = some a) (hg : Ends (fun k => g k a) v) : Ends (fun k => f.bind (g k)) v := by
  subst hf; exact hg
theorem Ends.pos {α : Type} {c : Prop} {d : Decidable c} {f g : Nat → Option α} {v : α} (hc : c) (h : Ends f v) : Ends (fun k => @ite _ c d (f k) (g k)) v := by
  obtain ⟨k0, hk⟩ := h
  exact ⟨k0, fun k hk1 => by simp only [if_pos hc]; exact hk k hk1⟩
theorem Ends.neg {α : Type} {c : Prop} {d : Decidable c} {f g : Nat → Option α} {v : α} (hc : ¬ c) (h : Ends g v) : Ends (fun k => @ite _ c d (f k) (g k)) v := by
  obtain ⟨k0, hk⟩ := h
  exact ⟨k0, fun k hk1 => by simp only [if_neg hc]; exact hk k hk1⟩
theorem Ends.get {α : Type} {g : Nat → Option α} {v : α} (h : Ends g v) : ∃ k, g k = some v := by
  obtain ⟨k0, hk⟩ := h
  exact ⟨k0, hk k0 (Nat.le_refl _)⟩
theorem Ends.cast {α : Type} {g h : Nat → Option α} {v : α} (hh : Ends h v) (e : ∀ k, g k = h k) : Ends g v := by
  obtain ⟨k0, hk⟩ := hh
  exact ⟨k0, fun k hk1 => (e k).trans (hk k hk1)⟩
theorem Ends.val {α : Type} {g : Nat → Option α} {v w : α} (h : Ends g v) (e : v = w) : Ends g w := e ▸ h
end Go.Proofs.YtlpkkkkgbnoiiaaDoor.H
end
section
namespace Go.Proofs.YtlpkkkkgbnoiiaaDoor.H
open Go.RowKit Go.Proofs.YtlpkkkkgbnoiiaaDoorW.PrintWords Go.Proofs.YtlpkkkkgbnoiiaaDoorW.PrintLast Go.Proofs.YtlpkkkkgbnoiiaaDoorW.PrintMore
attribute [local go_sem] max2_int min2_int max_two min_two max_three min_three max_four min_four
set_option linter.unusedVariables false
set_option linter.unusedSimpArgs false
def arboristref01_Hex.l0 : Nat → Int → Int → ByteArray → Option (ByteArray)
 | 0, _, _, _ => none
 | k + 1, x0, x1, x5 => if x0 > 0 then (if 0 ≤ (Int.tmod x0 16) then (if (Int.tmod x0 16) ≤ (wrap64 ((Int.tmod x0 16) + 1)) then (if (wrap64 ((Int.tmod x0 16) + 1)) ≤ 16 then (if ((⟨#[48, 49, 50, 51, 52, 53, 54, 55, 56, 57, 97, 98, 99, 100, 101, 102]⟩ : ByteArray).extract ((Int.tmod x0 16) : Int).toNat ((wrap64 ((Int.tmod x0 16) + 1)) : Int).toNat).size + x5.size ≤ 9223372036854775807 then (arboristref01_Hex.l0 k (wrap64 (Int.tdiv x0 16)) x1 (((⟨#[48, 49, 50, 51, 52, 53, 54, 55, 56, 57, 97, 98, 99, 100, 101, 102]⟩ : ByteArray).extract ((Int.tmod x0 16) : Int).toNat ((wrap64 ((Int.tmod x0 16) + 1)) : Int).toNat) ++ x5)) else (none)) else (none)) else (none)) else (none)) else (if (x5.size : Int) < x1 then (if 0 ≤ (Int.tmod x0 16) then (if (Int.tmod x0 16) ≤ (wrap64 ((Int.tmod x0 16) + 1)) then (if (wrap64 ((Int.tmod x0 16) + 1)) ≤ 16 then (if ((⟨#[48, 49, 50, 51, 52, 53, 54, 55, 56, 57, 97, 98, 99, 100, 101, 102]⟩ : ByteArray).extract ((Int.tmod x0 16) : Int).toNat ((wrap64 ((Int.tmod x0 16) + 1)) : Int).toNat).size + x5.size ≤ 9223372036854775807 then (arboristref01_Hex.l0 k (wrap64 (Int.tdiv x0 16)) x1 (((⟨#[48, 49, 50, 51, 52, 53, 54, 55, 56, 57, 97, 98, 99, 100, 101, 102]⟩ : ByteArray).extract ((Int.tmod x0 16) : Int).toNat ((wrap64 ((Int.tmod x0 16) + 1)) : Int).toNat) ++ x5)) else (none)) else (none)) else (none)) else (none)) else (some x5))
def arboristref01_Hex.f (k : Nat) (a0 : Int) (a1 : Int) : Option (ByteArray) := arboristref01_Hex.l0 k a0 a1 (⟨#[]⟩ : ByteArray)
theorem arboristref01_Hex.mono_l : ∀ k, (∀ y0 y1 y2, LeO (arboristref01_Hex.l0 k y0 y1 y2) (arboristref01_Hex.l0 (k + 1) y0 y1 y2))
 | 0 => fun _ _ _ r h => by simp [arboristref01_Hex.l0] at h
 | k + 1 => by
  have ih0 := arboristref01_Hex.mono_l k
  ·intro y0 y1 y2
   unfold arboristref01_Hex.l0
   repeat' first
   | (with_reducible exact ih0 _ _ _)
   | (with_reducible exact LeO.refl _)
   | (with_reducible exact LeO.none _)
   | (with_reducible refine LeO.ite ?_ ?_)
   | (with_reducible refine LeO.bind ?_ (fun _ => ?_))
   | exact ih0 _ _ _
   | exact LeO.none _
   | refine LeO.ite ?_ ?_
   | refine LeO.bind ?_ (fun _ => ?_)
theorem arboristref01_Hex.mono : ∀ a0 a1 k, LeO (arboristref01_Hex.f k a0 a1) (arboristref01_Hex.f (k + 1) a0 a1) := by
 (intro a0 a1 k); (have ih0 := arboristref01_Hex.mono_l k); (unfold arboristref01_Hex.f)
 repeat' first
   | (with_reducible exact ih0 _ _ _)
   | (with_reducible exact LeO.refl _)
   | (with_reducible exact LeO.none _)
   | (with_reducible refine LeO.ite ?_ ?_)
   | (with_reducible refine LeO.bind ?_ (fun _ => ?_))
   | exact ih0 _ _ _
   | exact LeO.none _
   | refine LeO.ite ?_ ?_
   | refine LeO.bind ?_ (fun _ => ?_)
set_option maxHeartbeats 8000000 in
set_option maxRecDepth 100000 in
theorem arboristref01_Hex.calls (k : Nat) (a0 : Int) (a1 : Int) (r : ByteArray) (w : World) (h : arboristref01_Hex.f k a0 a1 = some r) :
  Calls Tryd.prog 40 #[.int .i64 a0, .int .i64 a1] w fun e w' => e = .returned (.string r) ∧ Drawn0 w w' := by
 (have H : (arboristref01_Hex.l0 k a0 a1 (⟨#[]⟩ : ByteArray)) = some r := h); clear h; (have H' := qM H); clear H; (go_enter Tryd.func40, Tryd.ntmps40); go_wp2; (go_loopg [0, 5] k (fun kq v0 v5 w' => ∃ (x0_1 : Int) (x5_1 : ByteArray), v0 = .int .i64 x0_1 ∧ v5 = .string x5_1 ∧ Aside0 (arboristref01_Hex.l0 kq x0_1 a1 x5_1 = some r) ∧ Aside0 (kq ≤ k) ∧ Drawn0 w w'))
 case atStart => exact ⟨(a0), ((⟨#[]⟩ : ByteArray)), (by first | rfl | (simp; done) | (simp [*]; done)), (by first | rfl | (simp; done) | (simp [*]; done)), H', ⟨Nat.le_refl _⟩, by repeat (first | exact Drawn0.refl _ | apply Drawn0.step)⟩
 case round =>
  (clear H'); (try clear p2); (obtain ⟨x0_1, x5_1, rfl, rfl, HA, HK1, ⟨m1, rfl⟩⟩ := hrel)
  cases gk with
  | zero => exact absurd HA.out (by simp [arboristref01_Hex.l0])
  | succ k1 =>
   (have H := HA.out); clear HA; (simp only [arboristref01_Hex.l0] at H); (by_cases c3 : x0_1 > 0)
   ·rw [if_pos c3] at H
    (have c3b0 : decide (0 < x0_1) = true := decide_eq_true c3); clear c3; (obtain ⟨ji4, hji4⟩ : ∃ j_ : Int, (Int.tmod x0_1 16) = j_ := ⟨_, rfl⟩); (replace H : (if 0 ≤ (ji4) then (if (ji4) ≤ (wrap64 ((ji4) + 1)) then (if (wrap64 ((ji4) + 1)) ≤ 16 then (if ((⟨#[48, 49, 50, 51, 52, 53, 54, 55, 56, 57, 97, 98, 99, 100, 101, 102]⟩ : ByteArray).extract ((ji4) : Int).toNat ((wrap64 ((ji4) + 1)) : Int).toNat).size + x5_1.size ≤ 9223372036854775807 then (arboristref01_Hex.l0 k1 (wrap64 (Int.tdiv x0_1 16)) a1 (((⟨#[48, 49, 50, 51, 52, 53, 54, 55, 56, 57, 97, 98, 99, 100, 101, 102]⟩ : ByteArray).extract ((ji4) : Int).toNat ((wrap64 ((ji4) + 1)) : Int).toNat) ++ x5_1)) else (none)) else (none)) else (none)) else (none)) = some r := by first | (rw [hji4] at H; exact H) | (simp only [hji4] at H ⊢; exact H)); (by_cases c5 : 0 ≤ (ji4))
    ·rw [if_pos c5] at H
     (have c5b0 := eq_true c5); (have c5b1 : decide (0 ≤ (ji4)) = true := decide_eq_true c5); clear c5; (by_cases c6 : (ji4) ≤ (wrap64 ((ji4) + 1)))
     ·rw [if_pos c6] at H
      (have c6b0 := eq_true c6); (have c6b1 : decide ((ji4) ≤ (wrap64 ((ji4) + 1))) = true := decide_eq_true c6); (by_cases c7 : (wrap64 ((ji4) + 1)) ≤ 16)
      ·rw [if_pos c7] at H
       (have c7b0 := eq_true c7); (have c7b1 : decide ((wrap64 ((ji4) + 1)) ≤ 16) = true := decide_eq_true c7); (by_cases c8 : ((⟨#[48, 49, 50, 51, 52, 53, 54, 55, 56, 57, 97, 98, 99, 100, 101, 102]⟩ : ByteArray).extract ((ji4) : Int).toNat ((wrap64 ((ji4) + 1)) : Int).toNat).size + x5_1.size ≤ 9223372036854775807)
       ·rw [if_pos c8] at H
        (have c8b0 := eq_true c8); (have c8b1 : decide (((⟨#[48, 49, 50, 51, 52, 53, 54, 55, 56, 57, 97, 98, 99, 100, 101, 102]⟩ : ByteArray).extract ((ji4) : Int).toNat ((wrap64 ((ji4) + 1)) : Int).toNat).size + x5_1.size ≤ 9223372036854775807) = true := decide_eq_true c8); (try have c8b2 : (9223372036854775807 < ((⟨#[48, 49, 50, 51, 52, 53, 54, 55, 56, 57, 97, 98, 99, 100, 101, 102]⟩ : ByteArray).extract ((ji4) : Int).toNat ((wrap64 ((ji4) + 1)) : Int).toNat).size + x5_1.size) = False := eq_false (Nat.not_lt.2 c8)); (have H' := qM H); clear H; go_wp2; (go_roundg k1)
        case measure => have := HK1.out; omega
        case rel => exact ⟨(wrap64 (Int.tdiv x0_1 16)), (((⟨#[48, 49, 50, 51, 52, 53, 54, 55, 56, 57, 97, 98, 99, 100, 101, 102]⟩ : ByteArray).extract ((ji4) : Int).toNat ((wrap64 ((ji4) + 1)) : Int).toNat) ++ x5_1), (by first | rfl | (simp; done) | (simp [*]; done)), (by first | rfl | (simp; done) | (simp only [← hji4] <;> (first | rfl | simp)) | (simp [*]; done)), H', ⟨by have := HK1.out; omega⟩, by repeat (first | exact Drawn0.refl _ | apply Drawn0.step)⟩
       ·rw [if_neg c8] at H
        exact absurd H (by simp)
      ·rw [if_neg c7] at H
       exact absurd H (by simp)
     ·rw [if_neg c6] at H
      exact absurd H (by simp)
    ·rw [if_neg c5] at H
     exact absurd H (by simp)
   ·rw [if_neg c3] at H
    (have c3b0 : decide (0 < x0_1) = false := decide_eq_false c3); clear c3; (by_cases c9 : (x5_1.size : Int) < a1)
    ·rw [if_pos c9] at H
     (have c9b0 : decide ((x5_1.size : Int) < a1) = true := decide_eq_true c9); clear c9; (obtain ⟨ji10, hji10⟩ : ∃ j_ : Int, (Int.tmod x0_1 16) = j_ := ⟨_, rfl⟩); (replace H : (if 0 ≤ (ji10) then (if (ji10) ≤ (wrap64 ((ji10) + 1)) then (if (wrap64 ((ji10) + 1)) ≤ 16 then (if ((⟨#[48, 49, 50, 51, 52, 53, 54, 55, 56, 57, 97, 98, 99, 100, 101, 102]⟩ : ByteArray).extract ((ji10) : Int).toNat ((wrap64 ((ji10) + 1)) : Int).toNat).size + x5_1.size ≤ 9223372036854775807 then (arboristref01_Hex.l0 k1 (wrap64 (Int.tdiv x0_1 16)) a1 (((⟨#[48, 49, 50, 51, 52, 53, 54, 55, 56, 57, 97, 98, 99, 100, 101, 102]⟩ : ByteArray).extract ((ji10) : Int).toNat ((wrap64 ((ji10) + 1)) : Int).toNat) ++ x5_1)) else (none)) else (none)) else (none)) else (none)) = some r := by first | (rw [hji10] at H; exact H) | (simp only [hji10] at H ⊢; exact H)); (by_cases c11 : 0 ≤ (ji10))
     ·rw [if_pos c11] at H
      (have c11b0 := eq_true c11); (have c11b1 : decide (0 ≤ (ji10)) = true := decide_eq_true c11); clear c11; (by_cases c12 : (ji10) ≤ (wrap64 ((ji10) + 1)))
      ·rw [if_pos c12] at H
       (have c12b0 := eq_true c12); (have c12b1 : decide ((ji10) ≤ (wrap64 ((ji10) + 1))) = true := decide_eq_true c12); (by_cases c13 : (wrap64 ((ji10) + 1)) ≤ 16)
       ·rw [if_pos c13] at H
        (have c13b0 := eq_true c13); (have c13b1 : decide ((wrap64 ((ji10) + 1)) ≤ 16) = true := decide_eq_true c13); (by_cases c14 : ((⟨#[48, 49, 50, 51, 52, 53, 54, 55, 56, 57, 97, 98, 99, 100, 101, 102]⟩ : ByteArray).extract ((ji10) : Int).toNat ((wrap64 ((ji10) + 1)) : Int).toNat).size + x5_1.size ≤ 9223372036854775807)
        ·rw [if_pos c14] at H
         (have c14b0 := eq_true c14); (have c14b1 : decide (((⟨#[48, 49, 50, 51, 52, 53, 54, 55, 56, 57, 97, 98, 99, 100, 101, 102]⟩ : ByteArray).extract ((ji10) : Int).toNat ((wrap64 ((ji10) + 1)) : Int).toNat).size + x5_1.size ≤ 9223372036854775807) = true := decide_eq_true c14); (try have c14b2 : (9223372036854775807 < ((⟨#[48, 49, 50, 51, 52, 53, 54, 55, 56, 57, 97, 98, 99, 100, 101, 102]⟩ : ByteArray).extract ((ji10) : Int).toNat ((wrap64 ((ji10) + 1)) : Int).toNat).size + x5_1.size) = False := eq_false (Nat.not_lt.2 c14)); (have H' := qM H); clear H; go_wp2; (go_roundg k1)
         case measure => have := HK1.out; omega
         case rel => exact ⟨(wrap64 (Int.tdiv x0_1 16)), (((⟨#[48, 49, 50, 51, 52, 53, 54, 55, 56, 57, 97, 98, 99, 100, 101, 102]⟩ : ByteArray).extract ((ji10) : Int).toNat ((wrap64 ((ji10) + 1)) : Int).toNat) ++ x5_1), (by first | rfl | (simp; done) | (simp [*]; done)), (by first | rfl | (simp; done) | (simp only [← hji10] <;> (first | rfl | simp)) | (simp [*]; done)), H', ⟨by have := HK1.out; omega⟩, by repeat (first | exact Drawn0.refl _ | apply Drawn0.step)⟩
        ·rw [if_neg c14] at H
         exact absurd H (by simp)
       ·rw [if_neg c13] at H
        exact absurd H (by simp)
      ·rw [if_neg c12] at H
       exact absurd H (by simp)
     ·rw [if_neg c11] at H
      exact absurd H (by simp)
    ·rw [if_neg c9] at H
     (have c9b0 : decide ((x5_1.size : Int) < a1) = false := decide_eq_false c9); clear c9; (obtain rfl := Option.some.inj H); go_wp2; (go_ret); (exact ⟨by first | rfl | (simp; done) | (simp [*]; done), by repeat (first | exact Drawn0.refl _ | apply Drawn0.step)⟩)
def arboristref01_Invalid.f (a0_0 : Int) (a0_1 : Int) (a0_2 : Int) : Option (Bool) := if a0_0 = 65533 then (some (a0_2 == 1)) else (some false)
set_option maxHeartbeats 8000000 in
set_option maxRecDepth 100000 in
theorem arboristref01_Invalid.calls (a0_0 : Int) (a0_1 : Int) (a0_2 : Int) (r : Bool) (w : World) (h : arboristref01_Invalid.f a0_0 a0_1 a0_2 = some r) :
  Calls Tryd.prog 39 #[.agg #[.int .i32 a0_0, .int .i64 a0_1, .int .i64 a0_2]] w fun e w' => e = .returned (.bool r) ∧ Below w.heap.size w w' := by
 (have hu41 := Tryd.underlying41); (have HB := qM (Below.refl w.heap.size w)); (have H : (if a0_0 = 65533 then (some (a0_2 == 1)) else (some false)) = some r := h); clear h; (by_cases c2 : a0_0 = 65533)
 ·rw [if_pos c2] at H
  (have c2b0 : (a0_0 == 65533) = true := beq_iff_eq.mpr c2); (have c2b1 : (a0_0 != 65533) = false := bne_eq_false_iff_eq.mpr c2); clear c2; (obtain rfl := Option.some.inj H); (go_enter Tryd.func39, Tryd.ntmps39)
  go_wp2_with (first | ((with_reducible refine gate_dst (N := 1) rfl ?_); refine box_event ?hg (N := 1) ?hd (cs := #[.int .i32 a0_0, .int .i64 a0_1, .int .i64 a0_2]) (t := 41) ?hr ?_; (case hd => rfl); (case hg => rfl); (case hr => first | (go_simp; done) | (go_simp; rfl)); intro gb150 hg w3 hbox hb; have n0_ := qM (qP (by repeat (first | (with_reducible first | exact HB.out | apply qA | apply qN | apply qD) | exact HB.out)) hb); have n1_ := qM (hbox); have n2_ := qM ((by rw [hg]; exact (qZ (by repeat (first | (with_reducible first | exact HB.out | apply qA | apply qN | apply qD) | exact HB.out))) : w.heap.size ≤ gb150)); have n3_ := qM ((by rw [hg]; exact (qZ (by repeat (first | (with_reducible first | exact HB.out | apply qA | apply qN | apply qD) | exact HB.out))) : w.heap.size ≤ gb150)); clear HB; have HB := n0_; have BK150 := n1_; have GW150 := n2_; have GE150 := n3_; clear n0_ n1_ n2_ n3_; clear hb hbox hg; obtain ⟨hcz4_0, hcz4_1, hcz4_2, hfz4_0, hfz4_1, hfz4_2⟩ := bx3 BK150.out))
  (go_ret); (exact ⟨by first | rfl | (simp [errW_none, errW_some] <;> rfl) | (simp [*, errW_none, errW_some] <;> rfl), by repeat (first | (with_reducible first | exact HB.out | apply qA | apply qN | apply qD | refine qS ?_ GE150.out) | exact HB.out)⟩)
 ·rw [if_neg c2] at H
  (have c2b0 : (a0_0 == 65533) = false := beq_eq_false_iff_ne.mpr c2); (have c2b1 : (a0_0 != 65533) = true := bne_iff_ne.mpr c2); (obtain rfl := Option.some.inj H); (go_enter Tryd.func39, Tryd.ntmps39)
  go_wp2_with (first | ((with_reducible refine gate_dst (N := 1) rfl ?_); refine box_event ?hg (N := 1) ?hd (cs := #[.int .i32 a0_0, .int .i64 a0_1, .int .i64 a0_2]) (t := 41) ?hr ?_; (case hd => rfl); (case hg => rfl); (case hr => first | (go_simp; done) | (go_simp; rfl)); intro gb150 hg w5 hbox hb; have n0_ := qM (qP (by repeat (first | (with_reducible first | exact HB.out | apply qA | apply qN | apply qD) | exact HB.out)) hb); have n1_ := qM (hbox); have n2_ := qM ((by rw [hg]; exact (qZ (by repeat (first | (with_reducible first | exact HB.out | apply qA | apply qN | apply qD) | exact HB.out))) : w.heap.size ≤ gb150)); have n3_ := qM ((by rw [hg]; exact (qZ (by repeat (first | (with_reducible first | exact HB.out | apply qA | apply qN | apply qD) | exact HB.out))) : w.heap.size ≤ gb150)); clear HB; have HB := n0_; have BK150 := n1_; have GW150 := n2_; have GE150 := n3_; clear n0_ n1_ n2_ n3_; clear hb hbox hg; obtain ⟨hcz6_0, hcz6_1, hcz6_2, hfz6_0, hfz6_1, hfz6_2⟩ := bx3 BK150.out))
  (go_ret); (exact ⟨by first | rfl | (simp [errW_none, errW_some] <;> rfl) | (simp [*, errW_none, errW_some] <;> rfl), by repeat (first | (with_reducible first | exact HB.out | apply qA | apply qN | apply qD | refine qS ?_ GE150.out) | exact HB.out)⟩)
mutual
def arboristref01_Quote.l0 : Nat → ByteArray → ByteArray → List (S41) → Int → Option (ByteArray)
 | 0, _, _, _, _ => none
 | k + 1, x0, x3, x4, x5 => if x5 < (x4.length : Int) then (if 0 ≤ x5 then ((arboristref01_Invalid.f ((rd_T41 x4 x5).f0) ((rd_T41 x4 x5).f1) ((rd_T41 x4 x5).f2)).bind fun t156 => (if t156 = true then (if 0 ≤ ((rd_T41 x4 x5).f1) then (if ((rd_T41 x4 x5).f1) < (x0.size : Int) then ((arboristref01_Hex.f k (wrap64 (bt x0 ((rd_T41 x4 x5).f1))) 2).bind fun t158 => (if 3 + t158.size ≤ 9223372036854775807 then (if ((⟨#[92, 120, 123]⟩ : ByteArray) ++ t158).size + 1 ≤ 9223372036854775807 then (if x3.size + (((⟨#[92, 120, 123]⟩ : ByteArray) ++ t158) ++ (⟨#[125]⟩ : ByteArray)).size ≤ 9223372036854775807 then (arboristref01_Quote.l0 k x0 (x3 ++ (((⟨#[92, 120, 123]⟩ : ByteArray) ++ t158) ++ (⟨#[125]⟩ : ByteArray))) x4 (wrap64 (x5 + 1))) else (none)) else (none)) else (none))) else (none)) else (none)) else (if ((rd_T41 x4 x5).f0) = 34 then (arboristref01_Quote.j1 k x0 x3 x4 x5 ((rd_T41 x4 x5).f0) true) else (arboristref01_Quote.j1 k x0 x3 x4 x5 ((rd_T41 x4 x5).f0) (((rd_T41 x4 x5).f0) == 92))))) else (none)) else (if x3.size + 1 ≤ 9223372036854775807 then (some (x3 ++ (⟨#[34]⟩ : ByteArray))) else (none))
def arboristref01_Quote.j1 : Nat → ByteArray → ByteArray → List (S41) → Int → Int → Bool → Option (ByteArray)
 | 0, _, _, _, _, _, _ => none
 | k + 1, x0, x3, x4, x5, x6, x46 => if x46 = true then (if 0 ≤ x5 then (if x5 < (x4.length : Int) then (if 0 ≤ ((rd_T41 x4 x5).f1) then (if ((rd_T41 x4 x5).f1) ≤ (wrap64 (((rd_T41 x4 x5).f1) + 1)) then (if (wrap64 (((rd_T41 x4 x5).f1) + 1)) ≤ (x0.size : Int) then (if 1 + (x0.extract (((rd_T41 x4 x5).f1) : Int).toNat ((wrap64 (((rd_T41 x4 x5).f1) + 1)) : Int).toNat).size ≤ 9223372036854775807 then (if x3.size + ((⟨#[92]⟩ : ByteArray) ++ (x0.extract (((rd_T41 x4 x5).f1) : Int).toNat ((wrap64 (((rd_T41 x4 x5).f1) + 1)) : Int).toNat)).size ≤ 9223372036854775807 then (arboristref01_Quote.l0 k x0 (x3 ++ ((⟨#[92]⟩ : ByteArray) ++ (x0.extract (((rd_T41 x4 x5).f1) : Int).toNat ((wrap64 (((rd_T41 x4 x5).f1) + 1)) : Int).toNat))) x4 (wrap64 (x5 + 1))) else (none)) else (none)) else (none)) else (none)) else (none)) else (none)) else (none)) else (if x6 = 10 then (if x3.size + 2 ≤ 9223372036854775807 then (arboristref01_Quote.l0 k x0 (x3 ++ (⟨#[92, 110]⟩ : ByteArray)) x4 (wrap64 (x5 + 1))) else (none)) else (if x6 = 13 then (if x3.size + 2 ≤ 9223372036854775807 then (arboristref01_Quote.l0 k x0 (x3 ++ (⟨#[92, 114]⟩ : ByteArray)) x4 (wrap64 (x5 + 1))) else (none)) else (if x6 = 9 then (if x3.size + 2 ≤ 9223372036854775807 then (arboristref01_Quote.l0 k x0 (x3 ++ (⟨#[92, 116]⟩ : ByteArray)) x4 (wrap64 (x5 + 1))) else (none)) else (if x6 ≥ 32 then (if x6 ≤ 126 then (if 0 ≤ x5 then (if x5 < (x4.length : Int) then (if 0 ≤ ((rd_T41 x4 x5).f1) then (if ((rd_T41 x4 x5).f1) ≤ (wrap64 (((rd_T41 x4 x5).f1) + 1)) then (if (wrap64 (((rd_T41 x4 x5).f1) + 1)) ≤ (x0.size : Int) then (if x3.size + (x0.extract (((rd_T41 x4 x5).f1) : Int).toNat ((wrap64 (((rd_T41 x4 x5).f1) + 1)) : Int).toNat).size ≤ 9223372036854775807 then (arboristref01_Quote.l0 k x0 (x3 ++ (x0.extract (((rd_T41 x4 x5).f1) : Int).toNat ((wrap64 (((rd_T41 x4 x5).f1) + 1)) : Int).toNat)) x4 (wrap64 (x5 + 1))) else (none)) else (none)) else (none)) else (none)) else (none)) else (none)) else ((arboristref01_Hex.f k (wrap64 (x6)) 1).bind fun t163 => (if 3 + t163.size ≤ 9223372036854775807 then (if ((⟨#[92, 117, 123]⟩ : ByteArray) ++ t163).size + 1 ≤ 9223372036854775807 then (if x3.size + (((⟨#[92, 117, 123]⟩ : ByteArray) ++ t163) ++ (⟨#[125]⟩ : ByteArray)).size ≤ 9223372036854775807 then (arboristref01_Quote.l0 k x0 (x3 ++ (((⟨#[92, 117, 123]⟩ : ByteArray) ++ t163) ++ (⟨#[125]⟩ : ByteArray))) x4 (wrap64 (x5 + 1))) else (none)) else (none)) else (none)))) else ((arboristref01_Hex.f k (wrap64 (x6)) 1).bind fun t164 => (if 3 + t164.size ≤ 9223372036854775807 then (if ((⟨#[92, 117, 123]⟩ : ByteArray) ++ t164).size + 1 ≤ 9223372036854775807 then (if x3.size + (((⟨#[92, 117, 123]⟩ : ByteArray) ++ t164) ++ (⟨#[125]⟩ : ByteArray)).size ≤ 9223372036854775807 then (arboristref01_Quote.l0 k x0 (x3 ++ (((⟨#[92, 117, 123]⟩ : ByteArray) ++ t164) ++ (⟨#[125]⟩ : ByteArray))) x4 (wrap64 (x5 + 1))) else (none)) else (none)) else (none)))))))
end
def arboristref01_Quote.f (k : Nat) (a0 : ByteArray) : Option (ByteArray) := (arboristref01_Runes.f k a0).bind fun t151 => (arboristref01_Quote.l0 k a0 (⟨#[34]⟩ : ByteArray) t151 0)
set_option maxHeartbeats 8000000 in
set_option maxRecDepth 100000 in
theorem arboristref01_Quote.calls (k : Nat) (a0 : ByteArray) (r : ByteArray) (w : World) (h : arboristref01_Quote.f k a0 = some r) :
  Calls Tryd.prog 18 #[.string a0] w fun e w' => e = .returned (.string r) ∧ Below w.heap.size w w' := by
 (have hu41 := Tryd.underlying41); (have HB := qM (Below.refl w.heap.size w)); (have H : ((arboristref01_Runes.f k a0).bind fun t151 => (arboristref01_Quote.l0 k a0 (⟨#[34]⟩ : ByteArray) t151 0)) = some r := h); clear h; (replace H := Option.bind_eq_some_iff.mp H); (obtain ⟨t151, A20, H⟩ := H); (replace H : (arboristref01_Quote.l0 k a0 (⟨#[34]⟩ : ByteArray) t151 0) = some r := H); (have A2 := qM A20); clear A20; (have H' := qM H); clear H; (go_enter Tryd.func18, Tryd.ntmps18); (go_wp2_with (first | (go_at_call 15; (with_reducible refine (arboristref01_Runes.calls k a0 t151 _ A2.out).mono ?_); rintro e w3 ⟨v152, rfl, ho0, hb⟩; have n0_ := qM (Kd.R_lower ho0 (qZ (by repeat (first | (with_reducible first | exact HB.out | apply qA | apply qN | apply qD) | exact HB.out)))); have n1_ := qM (qP (by repeat (first | (with_reducible first | exact HB.out | apply qA | apply qN | apply qD) | exact HB.out)) hb); clear HB; have HO153 := n0_; have HB := n1_; clear n0_ n1_; (try clear hb); (try clear hb2); (try clear hk); (try clear hi); (try clear ho0))))
 repeat (go_quiet (first | (go_at_call 15; (with_reducible refine (arboristref01_Runes.calls k a0 t151 _ A2.out).mono ?_); rintro e w3 ⟨v152, rfl, ho0, hb⟩; have n0_ := qM (Kd.R_lower ho0 (qZ (by repeat (first | (with_reducible first | exact HB.out | apply qA | apply qN | apply qD) | exact HB.out)))); have n1_ := qM (qP (by repeat (first | (with_reducible first | exact HB.out | apply qA | apply qN | apply qD) | exact HB.out)) hb); clear HB; have HO153 := n0_; have HB := n1_; clear n0_ n1_; (try clear hb); (try clear hb2); (try clear hk); (try clear hi); (try clear ho0))); try go_wp2_with (first | (go_at_call 15; (with_reducible refine (arboristref01_Runes.calls k a0 t151 _ A2.out).mono ?_); rintro e w3 ⟨v152, rfl, ho0, hb⟩; have n0_ := qM (Kd.R_lower ho0 (qZ (by repeat (first | (with_reducible first | exact HB.out | apply qA | apply qN | apply qD) | exact HB.out)))); have n1_ := qM (qP (by repeat (first | (with_reducible first | exact HB.out | apply qA | apply qN | apply qD) | exact HB.out)) hb); clear HB; have HO153 := n0_; have HB := n1_; clear n0_ n1_; (try clear hb); (try clear hb2); (try clear hk); (try clear hi); (try clear ho0))))
 go_loopg [3, 5] k (fun kq v3 v5 w' => ∃ (x3_1 : ByteArray) (x5_1 : Int), v3 = .string x3_1 ∧ v5 = .int .i64 x5_1 ∧ Aside0 (arboristref01_Quote.l0 kq a0 x3_1 t151 x5_1 = some r) ∧ Aside0 (kq ≤ k) ∧ Aside0 (Kd.R k41 41 w' w.heap.size (fun _ => True) v152 t151) ∧ Aside0 (Below w.heap.size w w'))
 case atStart => exact ⟨((⟨#[34]⟩ : ByteArray)), (0), (by first | rfl | (simp; done) | (simp [*]; done)), (by first | rfl | (simp; done) | (simp [*]; done)), H', ⟨Nat.le_refl _⟩, ⟨by (with_reducible repeat (first | apply Kd.R_alloc | apply Kd.R_drewN | apply Kd.R_drew)); exact HO153.out⟩, ⟨by repeat (first | (with_reducible first | exact HB.out | apply qA | apply qN | apply qD) | exact HB.out)⟩⟩
 case round =>
  (clear H'); (try clear c1); (try clear p2); (obtain ⟨x3_1, x5_1, rfl, rfl, HA, HK1, HO_4, HB⟩ := hrel)
  cases gk with
  | zero => exact absurd HA.out (by simp [arboristref01_Quote.l0])
  | succ k1 =>
   (have H := HA.out); clear HA; (simp only [arboristref01_Quote.l0] at H); (by_cases c4 : x5_1 < (t151.length : Int))
   ·rw [if_pos c4] at H
    (have c4b0 : decide (x5_1 < (t151.length : Int)) = true := decide_eq_true c4); clear c4; (by_cases c5 : 0 ≤ x5_1)
    ·rw [if_pos c5] at H
     (have c5b0 : decide (0 ≤ x5_1) = true := decide_eq_true c5); clear c5; (replace H := Option.bind_eq_some_iff.mp H); (obtain ⟨t156, A60, H⟩ := H)
     replace H : (if t156 = true then (if 0 ≤ ((rd_T41 t151 x5_1).f1) then (if ((rd_T41 t151 x5_1).f1) < (a0.size : Int) then ((arboristref01_Hex.f k1 (wrap64 (bt a0 ((rd_T41 t151 x5_1).f1))) 2).bind fun t158 => (if 3 + t158.size ≤ 9223372036854775807 then (if ((⟨#[92, 120, 123]⟩ : ByteArray) ++ t158).size + 1 ≤ 9223372036854775807 then (if x3_1.size + (((⟨#[92, 120, 123]⟩ : ByteArray) ++ t158) ++ (⟨#[125]⟩ : ByteArray)).size ≤ 9223372036854775807 then (arboristref01_Quote.l0 k1 a0 (x3_1 ++ (((⟨#[92, 120, 123]⟩ : ByteArray) ++ t158) ++ (⟨#[125]⟩ : ByteArray))) t151 (wrap64 (x5_1 + 1))) else (none)) else (none)) else (none))) else (none)) else (none)) else (if ((rd_T41 t151 x5_1).f0) = 34 then (arboristref01_Quote.j1 k1 a0 x3_1 t151 x5_1 ((rd_T41 t151 x5_1).f0) true) else (arboristref01_Quote.j1 k1 a0 x3_1 t151 x5_1 ((rd_T41 t151 x5_1).f0) (((rd_T41 t151 x5_1).f0) == 92)))) = some r := H
     (have A6 := qM A60); clear A60; (by_cases c7 : t156 = true)
     ·subst c7
      (have H1 : (if 0 ≤ ((rd_T41 t151 x5_1).f1) then (if ((rd_T41 t151 x5_1).f1) < (a0.size : Int) then ((arboristref01_Hex.f k1 (wrap64 (bt a0 ((rd_T41 t151 x5_1).f1))) 2).bind fun t158 => (if 3 + t158.size ≤ 9223372036854775807 then (if ((⟨#[92, 120, 123]⟩ : ByteArray) ++ t158).size + 1 ≤ 9223372036854775807 then (if x3_1.size + (((⟨#[92, 120, 123]⟩ : ByteArray) ++ t158) ++ (⟨#[125]⟩ : ByteArray)).size ≤ 9223372036854775807 then (arboristref01_Quote.l0 k1 a0 (x3_1 ++ (((⟨#[92, 120, 123]⟩ : ByteArray) ++ t158) ++ (⟨#[125]⟩ : ByteArray))) t151 (wrap64 (x5_1 + 1))) else (none)) else (none)) else (none))) else (none)) else (none)) = some r := by rw [if_pos rfl] at H; exact H); clear H; (have H := H1); clear H1; (by_cases c8 : 0 ≤ ((rd_T41 t151 x5_1).f1))
      ·rw [if_pos c8] at H
       (have c8b0 : decide (0 ≤ ((rd_T41 t151 x5_1).f1)) = true := decide_eq_true c8); clear c8; (by_cases c9 : ((rd_T41 t151 x5_1).f1) < (a0.size : Int))
       ·rw [if_pos c9] at H
        (have c9b0 : decide (((rd_T41 t151 x5_1).f1) < (a0.size : Int)) = true := decide_eq_true c9); clear c9; (replace H := Option.bind_eq_some_iff.mp H); (obtain ⟨t158, A110, H⟩ := H); (replace H : (if 3 + t158.size ≤ 9223372036854775807 then (if ((⟨#[92, 120, 123]⟩ : ByteArray) ++ t158).size + 1 ≤ 9223372036854775807 then (if x3_1.size + (((⟨#[92, 120, 123]⟩ : ByteArray) ++ t158) ++ (⟨#[125]⟩ : ByteArray)).size ≤ 9223372036854775807 then (arboristref01_Quote.l0 k1 a0 (x3_1 ++ (((⟨#[92, 120, 123]⟩ : ByteArray) ++ t158) ++ (⟨#[125]⟩ : ByteArray))) t151 (wrap64 (x5_1 + 1))) else (none)) else (none)) else (none)) = some r := H); (have A11 := qM A110); clear A110; (by_cases c12 : 3 + t158.size ≤ 9223372036854775807)
        ·rw [if_pos c12] at H
         (have c12b0 := eq_true c12); (have c12b1 : decide (3 + t158.size ≤ 9223372036854775807) = true := decide_eq_true c12); (try have c12b2 : (9223372036854775807 < 3 + t158.size) = False := eq_false (Nat.not_lt.2 c12)); (by_cases c13 : ((⟨#[92, 120, 123]⟩ : ByteArray) ++ t158).size + 1 ≤ 9223372036854775807)
         ·rw [if_pos c13] at H
          (have c13b0 := eq_true c13); (have c13b1 : decide (((⟨#[92, 120, 123]⟩ : ByteArray) ++ t158).size + 1 ≤ 9223372036854775807) = true := decide_eq_true c13); (try have c13b2 : (9223372036854775807 < ((⟨#[92, 120, 123]⟩ : ByteArray) ++ t158).size + 1) = False := eq_false (Nat.not_lt.2 c13)); (try have c13b3 : (9223372036854775807 < 3 + t158.size + 1) = False := eq_false (Nat.not_lt.2 (by have h_ := c13; simp only [ByteArray.size_append] at h_; exact h_))); (by_cases c14 : x3_1.size + (((⟨#[92, 120, 123]⟩ : ByteArray) ++ t158) ++ (⟨#[125]⟩ : ByteArray)).size ≤ 9223372036854775807)
          ·rw [if_pos c14] at H
           (have c14b0 := eq_true c14); (have c14b1 : decide (x3_1.size + (((⟨#[92, 120, 123]⟩ : ByteArray) ++ t158) ++ (⟨#[125]⟩ : ByteArray)).size ≤ 9223372036854775807) = true := decide_eq_true c14); (try have c14b2 : (9223372036854775807 < x3_1.size + (((⟨#[92, 120, 123]⟩ : ByteArray) ++ t158) ++ (⟨#[125]⟩ : ByteArray)).size) = False := eq_false (Nat.not_lt.2 c14)); (try have c14b3 : (9223372036854775807 < x3_1.size + (3 + t158.size + 1)) = False := eq_false (Nat.not_lt.2 (by have h_ := c14; simp only [ByteArray.size_append] at h_; exact h_))); (have H' := qM H); clear H; (obtain ⟨Ao15, co15, eo15⟩ := Kd.R_slice HO_4.out); subst eo15; (have p154 : 0 ≤ (x5_1 : Int) := qo (by first | (with_reducible assumption) | assumption)); (have q154 : x5_1 < (t151.length : Int) := qo (by first | (with_reducible assumption) | assumption)); (obtain ⟨ad154, e154, hx154_0, hx154_1, hx154_2⟩ := at_T41 (Kd.R_reads' HO_4.out).2.2 x5_1 p154 q154)
           cases e154
           (replace p154 := eq_true p154); (replace q154 := eq_true q154); (have p155 : 0 ≤ (x5_1 : Int) := qo (by first | (with_reducible assumption) | assumption)); (have q155 : x5_1 < (t151.length : Int) := qo (by first | (with_reducible assumption) | assumption)); (obtain ⟨ad155, e155, hx155_0, hx155_1, hx155_2⟩ := at_T41 (Kd.R_reads' HO_4.out).2.2 x5_1 p155 q155); (obtain rfl : ad154 = ad155 := (by injection e155)); (replace p155 := eq_true p155); (replace q155 := eq_true q155)
           go_wp2_with (first | (go_at_call 39; (with_reducible refine (arboristref01_Invalid.calls ((rd_T41 t151 x5_1).f0) ((rd_T41 t151 x5_1).f1) ((rd_T41 t151 x5_1).f2) true _ A6.out).mono ?_); rintro e w16 ⟨rfl, hb⟩; have n0_ := qM (Kd.R_below (by (with_reducible repeat (first | apply Kd.R_alloc | apply Kd.R_drewN | apply Kd.R_drew)); exact HO_4.out) hb); have n1_ := qM (qP (by repeat (first | (with_reducible first | exact HB.out | apply qA | apply qN | apply qD) | exact HB.out)) hb); clear HO_4; clear HB; have HO_4 := n0_; have HB := n1_; clear n0_ n1_; (try clear hb); (try clear hb2); (try clear hk); (try clear hi); have p157 : 0 ≤ (x5_1 : Int) := qo (by first | (with_reducible assumption) | assumption); have q157 : x5_1 < (t151.length : Int) := qo (by first | (with_reducible assumption) | assumption); obtain ⟨ad157, e157, hx157_0, hx157_1, hx157_2⟩ := at_T41 (Kd.R_reads' HO_4.out).2.2 x5_1 p157 q157; obtain rfl : ad154 = ad157 := (by injection e157); replace p157 := eq_true p157; replace q157 := eq_true q157; have p10 : 0 ≤ (((rd_T41 t151 x5_1).f1) : Int) := qo (by first | (with_reducible assumption) | assumption); have q10 : ((rd_T41 t151 x5_1).f1) < (a0.size : Int) := qo (by first | (with_reducible assumption) | assumption); have hx10 := bt_at a0 ((rd_T41 t151 x5_1).f1); replace p10 := eq_true p10; replace q10 := eq_true q10) | (go_at_call 40; (with_reducible refine (arboristref01_Hex.calls k1 (wrap64 (bt a0 ((rd_T41 t151 x5_1).f1))) 2 t158 _ A11.out).mono ?_); rintro e w' ⟨rfl, ⟨nd, rfl⟩⟩; (try first | exact ⟨rfl, _, World.drewN_drewN _ _ _⟩ | exact ⟨rfl, _, Eq.trans (World.drewN_drewN _ _ _) (congrArg (World.drewN _) (Nat.add_assoc _ _ _))⟩)))
           repeat (go_quiet (first | (go_at_call 39; (with_reducible refine (arboristref01_Invalid.calls ((rd_T41 t151 x5_1).f0) ((rd_T41 t151 x5_1).f1) ((rd_T41 t151 x5_1).f2) true _ A6.out).mono ?_); rintro e w16 ⟨rfl, hb⟩; have n0_ := qM (Kd.R_below (by (with_reducible repeat (first | apply Kd.R_alloc | apply Kd.R_drewN | apply Kd.R_drew)); exact HO_4.out) hb); have n1_ := qM (qP (by repeat (first | (with_reducible first | exact HB.out | apply qA | apply qN | apply qD) | exact HB.out)) hb); clear HO_4; clear HB; have HO_4 := n0_; have HB := n1_; clear n0_ n1_; (try clear hb); (try clear hb2); (try clear hk); (try clear hi); have p157 : 0 ≤ (x5_1 : Int) := qo (by first | (with_reducible assumption) | assumption); have q157 : x5_1 < (t151.length : Int) := qo (by first | (with_reducible assumption) | assumption); obtain ⟨ad157, e157, hx157_0, hx157_1, hx157_2⟩ := at_T41 (Kd.R_reads' HO_4.out).2.2 x5_1 p157 q157; obtain rfl : ad154 = ad157 := (by injection e157); replace p157 := eq_true p157; replace q157 := eq_true q157; have p10 : 0 ≤ (((rd_T41 t151 x5_1).f1) : Int) := qo (by first | (with_reducible assumption) | assumption); have q10 : ((rd_T41 t151 x5_1).f1) < (a0.size : Int) := qo (by first | (with_reducible assumption) | assumption); have hx10 := bt_at a0 ((rd_T41 t151 x5_1).f1); replace p10 := eq_true p10; replace q10 := eq_true q10) | (go_at_call 40; (with_reducible refine (arboristref01_Hex.calls k1 (wrap64 (bt a0 ((rd_T41 t151 x5_1).f1))) 2 t158 _ A11.out).mono ?_); rintro e w' ⟨rfl, ⟨nd, rfl⟩⟩; (try first | exact ⟨rfl, _, World.drewN_drewN _ _ _⟩ | exact ⟨rfl, _, Eq.trans (World.drewN_drewN _ _ _) (congrArg (World.drewN _) (Nat.add_assoc _ _ _))⟩))); try go_wp2_with (first | (go_at_call 39; (with_reducible refine (arboristref01_Invalid.calls ((rd_T41 t151 x5_1).f0) ((rd_T41 t151 x5_1).f1) ((rd_T41 t151 x5_1).f2) true _ A6.out).mono ?_); rintro e w16 ⟨rfl, hb⟩; have n0_ := qM (Kd.R_below (by (with_reducible repeat (first | apply Kd.R_alloc | apply Kd.R_drewN | apply Kd.R_drew)); exact HO_4.out) hb); have n1_ := qM (qP (by repeat (first | (with_reducible first | exact HB.out | apply qA | apply qN | apply qD) | exact HB.out)) hb); clear HO_4; clear HB; have HO_4 := n0_; have HB := n1_; clear n0_ n1_; (try clear hb); (try clear hb2); (try clear hk); (try clear hi); have p157 : 0 ≤ (x5_1 : Int) := qo (by first | (with_reducible assumption) | assumption); have q157 : x5_1 < (t151.length : Int) := qo (by first | (with_reducible assumption) | assumption); obtain ⟨ad157, e157, hx157_0, hx157_1, hx157_2⟩ := at_T41 (Kd.R_reads' HO_4.out).2.2 x5_1 p157 q157; obtain rfl : ad154 = ad157 := (by injection e157); replace p157 := eq_true p157; replace q157 := eq_true q157; have p10 : 0 ≤ (((rd_T41 t151 x5_1).f1) : Int) := qo (by first | (with_reducible assumption) | assumption); have q10 : ((rd_T41 t151 x5_1).f1) < (a0.size : Int) := qo (by first | (with_reducible assumption) | assumption); have hx10 := bt_at a0 ((rd_T41 t151 x5_1).f1); replace p10 := eq_true p10; replace q10 := eq_true q10) | (go_at_call 40; (with_reducible refine (arboristref01_Hex.calls k1 (wrap64 (bt a0 ((rd_T41 t151 x5_1).f1))) 2 t158 _ A11.out).mono ?_); rintro e w' ⟨rfl, ⟨nd, rfl⟩⟩; (try first | exact ⟨rfl, _, World.drewN_drewN _ _ _⟩ | exact ⟨rfl, _, Eq.trans (World.drewN_drewN _ _ _) (congrArg (World.drewN _) (Nat.add_assoc _ _ _))⟩))))
           go_roundg k1
           case measure => have := HK1.out; omega
           case rel => exact ⟨(x3_1 ++ (((⟨#[92, 120, 123]⟩ : ByteArray) ++ t158) ++ (⟨#[125]⟩ : ByteArray))), (wrap64 (x5_1 + 1)), (by first | rfl | (simp; done) | (simp [*]; done)), (by first | rfl | (simp; done) | (simp [*]; done)), H', ⟨by have := HK1.out; omega⟩, ⟨by (with_reducible repeat (first | apply Kd.R_alloc | apply Kd.R_drewN | apply Kd.R_drew)); exact HO_4.out⟩, ⟨by repeat (first | (with_reducible first | exact HB.out | apply qA | apply qN | apply qD) | exact HB.out)⟩⟩
          ·rw [if_neg c14] at H
           exact absurd H (by simp)
         ·rw [if_neg c13] at H
          exact absurd H (by simp)
        ·rw [if_neg c12] at H
         exact absurd H (by simp)
       ·rw [if_neg c9] at H
        exact absurd H (by simp)
      ·rw [if_neg c8] at H
       exact absurd H (by simp)
     ·replace c7 := Bool.eq_false_iff.mpr c7
      subst c7; (have H1 : (if ((rd_T41 t151 x5_1).f0) = 34 then (arboristref01_Quote.j1 k1 a0 x3_1 t151 x5_1 ((rd_T41 t151 x5_1).f0) true) else (arboristref01_Quote.j1 k1 a0 x3_1 t151 x5_1 ((rd_T41 t151 x5_1).f0) (((rd_T41 t151 x5_1).f0) == 92))) = some r := by rw [if_neg (show ¬ (false = true) by decide)] at H; exact H); clear H; (have H := H1); clear H1; (have HC17 := qM H); clear H; (obtain ⟨Ao18, co18, eo18⟩ := Kd.R_slice HO_4.out); subst eo18; (have p154 : 0 ≤ (x5_1 : Int) := qo (by first | (with_reducible assumption) | assumption)); (have q154 : x5_1 < (t151.length : Int) := qo (by first | (with_reducible assumption) | assumption)); (obtain ⟨ad154, e154, hx154_0, hx154_1, hx154_2⟩ := at_T41 (Kd.R_reads' HO_4.out).2.2 x5_1 p154 q154)
      cases e154
      (replace p154 := eq_true p154); (replace q154 := eq_true q154); (have p155 : 0 ≤ (x5_1 : Int) := qo (by first | (with_reducible assumption) | assumption)); (have q155 : x5_1 < (t151.length : Int) := qo (by first | (with_reducible assumption) | assumption)); (obtain ⟨ad155, e155, hx155_0, hx155_1, hx155_2⟩ := at_T41 (Kd.R_reads' HO_4.out).2.2 x5_1 p155 q155); (obtain rfl : ad154 = ad155 := (by injection e155)); (replace p155 := eq_true p155); (replace q155 := eq_true q155); (go_upto_region 10 with (first | (go_at_call 39; (with_reducible refine (arboristref01_Invalid.calls ((rd_T41 t151 x5_1).f0) ((rd_T41 t151 x5_1).f1) ((rd_T41 t151 x5_1).f2) false _ A6.out).mono ?_); rintro e w19 ⟨rfl, hb⟩; have n0_ := qM (Kd.R_below (by (with_reducible repeat (first | apply Kd.R_alloc | apply Kd.R_drewN | apply Kd.R_drew)); exact HO_4.out) hb); have n1_ := qM (qP (by repeat (first | (with_reducible first | exact HB.out | apply qA | apply qN | apply qD) | exact HB.out)) hb); clear HO_4; clear HB; have HO_4 := n0_; have HB := n1_; clear n0_ n1_; (try clear hb); (try clear hb2); (try clear hk); (try clear hi))))
      repeat (go_quiet (first | (go_at_call 39; (with_reducible refine (arboristref01_Invalid.calls ((rd_T41 t151 x5_1).f0) ((rd_T41 t151 x5_1).f1) ((rd_T41 t151 x5_1).f2) false _ A6.out).mono ?_); rintro e w19 ⟨rfl, hb⟩; have n0_ := qM (Kd.R_below (by (with_reducible repeat (first | apply Kd.R_alloc | apply Kd.R_drewN | apply Kd.R_drew)); exact HO_4.out) hb); have n1_ := qM (qP (by repeat (first | (with_reducible first | exact HB.out | apply qA | apply qN | apply qD) | exact HB.out)) hb); clear HO_4; clear HB; have HO_4 := n0_; have HB := n1_; clear n0_ n1_; (try clear hb); (try clear hb2); (try clear hk); (try clear hi))); go_upto_region 10 with (first | (go_at_call 39; (with_reducible refine (arboristref01_Invalid.calls ((rd_T41 t151 x5_1).f0) ((rd_T41 t151 x5_1).f1) ((rd_T41 t151 x5_1).f2) false _ A6.out).mono ?_); rintro e w19 ⟨rfl, hb⟩; have n0_ := qM (Kd.R_below (by (with_reducible repeat (first | apply Kd.R_alloc | apply Kd.R_drewN | apply Kd.R_drew)); exact HO_4.out) hb); have n1_ := qM (qP (by repeat (first | (with_reducible first | exact HB.out | apply qA | apply qN | apply qD) | exact HB.out)) hb); clear HO_4; clear HB; have HO_4 := n0_; have HB := n1_; clear n0_ n1_; (try clear hb); (try clear hb2); (try clear hk); (try clear hi))))
      ((try simp only [Act.put, List.setIfInBounds_toArray, List.set_cons_zero, List.set_cons_succ])); (go_cut [46] (fun v46 wc => ∃ (kq : Nat) (x46_16 : Bool), v46 = .bool x46_16 ∧ Aside0 (arboristref01_Quote.j1 kq a0 x3_1 t151 x5_1 ((rd_T41 t151 x5_1).f0) x46_16 = some r) ∧ Aside0 (kq ≤ k1) ∧ Aside0 (Kd.R k41 41 wc w.heap.size (fun _ => True) (.slice (some ad154) t151.length co18) t151) ∧ Aside0 (Below w.heap.size w wc)))
      case first =>
       (have H := HC17.out); clear HC17; (by_cases c20 : ((rd_T41 t151 x5_1).f0) = 34)
       ·rw [if_pos c20] at H
        (have c20b0 : (((rd_T41 t151 x5_1).f0) == 34) = true := beq_iff_eq.mpr c20); (have c20b1 : (((rd_T41 t151 x5_1).f0) != 34) = false := bne_eq_false_iff_eq.mpr c20); clear c20; ((first | rw [c20b0] | (simp only [i64_w, i32_w]; rw [c20b0]) | skip)); (have H' := qM H); clear H; go_wp2; (repeat (go_quiet (fail); try go_wp2)); go_meet
        case rel => exact ⟨_, (true), (by first | rfl | (simp; done) | (simp [*]; done)), H', ⟨by have := HK1.out; first | omega | exact Nat.le_refl _⟩, ⟨by (with_reducible repeat (first | apply Kd.R_alloc | apply Kd.R_drewN | apply Kd.R_drew)); exact HO_4.out⟩, ⟨by repeat (first | (with_reducible first | exact HB.out | apply qA | apply qN | apply qD) | exact HB.out)⟩⟩
       ·rw [if_neg c20] at H
        (have c20b0 : (((rd_T41 t151 x5_1).f0) == 34) = false := beq_eq_false_iff_ne.mpr c20); (have c20b1 : (((rd_T41 t151 x5_1).f0) != 34) = true := bne_iff_ne.mpr c20); ((first | rw [c20b0] | (simp only [i64_w, i32_w]; rw [c20b0]) | skip)); (have H' := qM H); clear H; go_wp2; (repeat (go_quiet (fail); try go_wp2)); go_meet
        case rel => exact ⟨_, ((((rd_T41 t151 x5_1).f0) == 92)), (by first | rfl | (simp; done) | (simp [*]; done)), H', ⟨by have := HK1.out; first | omega | exact Nat.le_refl _⟩, ⟨by (with_reducible repeat (first | apply Kd.R_alloc | apply Kd.R_drewN | apply Kd.R_drew)); exact HO_4.out⟩, ⟨by repeat (first | (with_reducible first | exact HB.out | apply qA | apply qN | apply qD) | exact HB.out)⟩⟩
      case rest =>
       clear HC17; (try clear c1); (try clear p1); (try clear q1); (try clear hx1); (try clear c2); (try clear p2); (try clear c4); (try clear c4b0); (try clear c5); (try clear c5b0); (try clear p6); (try clear c7); (try clear c8); (try clear c8b0); (try clear c9); (try clear c9b0); (try clear p10); (try clear q10); (try clear hx10); (try clear c12); (try clear c12b0); (try clear c12b1); (try clear c12b2); (try clear c13); (try clear c13b0); (try clear c13b1); (try clear c13b2); (try clear c14); (try clear c14b0); (try clear c14b1); (try clear c14b2); (try clear p15); (try clear q15); (try clear hx15); (try clear c18); (try clear c20); (try clear c20b0); (try clear c20b1); (try clear hx154_0 hx154_1 hx154_2); (try clear hx155_0 hx155_1 hx155_2); (try clear hx157_0 hx157_1 hx157_2); (try clear p10); (try clear p154); (try clear p155); (try clear p157); (try clear p2); (try clear q10); (try clear q154); (try clear q155); (try clear q157); (obtain ⟨kq, x46_16, rfl, HA, HJ16, HO_4, HB⟩ := hcut)
       cases kq with
       | zero => exact absurd HA.out (by simp [arboristref01_Quote.j1])
       | succ kj16 =>
        (have H := HA.out); clear HA; (simp only [arboristref01_Quote.j1] at H); (by_cases c21 : x46_16 = true)
        ·subst c21
         have H1 : (if 0 ≤ x5_1 then (if x5_1 < (t151.length : Int) then (if 0 ≤ ((rd_T41 t151 x5_1).f1) then (if ((rd_T41 t151 x5_1).f1) ≤ (wrap64 (((rd_T41 t151 x5_1).f1) + 1)) then (if (wrap64 (((rd_T41 t151 x5_1).f1) + 1)) ≤ (a0.size : Int) then (if 1 + (a0.extract (((rd_T41 t151 x5_1).f1) : Int).toNat ((wrap64 (((rd_T41 t151 x5_1).f1) + 1)) : Int).toNat).size ≤ 9223372036854775807 then (if x3_1.size + ((⟨#[92]⟩ : ByteArray) ++ (a0.extract (((rd_T41 t151 x5_1).f1) : Int).toNat ((wrap64 (((rd_T41 t151 x5_1).f1) + 1)) : Int).toNat)).size ≤ 9223372036854775807 then (arboristref01_Quote.l0 kj16 a0 (x3_1 ++ ((⟨#[92]⟩ : ByteArray) ++ (a0.extract (((rd_T41 t151 x5_1).f1) : Int).toNat ((wrap64 (((rd_T41 t151 x5_1).f1) + 1)) : Int).toNat))) t151 (wrap64 (x5_1 + 1))) else (none)) else (none)) else (none)) else (none)) else (none)) else (none)) else (none)) = some r := by rw [if_pos rfl] at H; exact H
         clear H; (have H := H1); clear H1; (by_cases c22 : 0 ≤ x5_1)
         ·rw [if_pos c22] at H
          (have c22b0 : decide (0 ≤ x5_1) = true := decide_eq_true c22); clear c22; (by_cases c23 : x5_1 < (t151.length : Int))
          ·rw [if_pos c23] at H
           (have c23b0 : decide (x5_1 < (t151.length : Int)) = true := decide_eq_true c23); clear c23; (by_cases c24 : 0 ≤ ((rd_T41 t151 x5_1).f1))
           ·rw [if_pos c24] at H
            (have c24b0 := eq_true c24); (have c24b1 : decide (0 ≤ ((rd_T41 t151 x5_1).f1)) = true := decide_eq_true c24); clear c24; (by_cases c25 : ((rd_T41 t151 x5_1).f1) ≤ (wrap64 (((rd_T41 t151 x5_1).f1) + 1)))
            ·rw [if_pos c25] at H
             (have c25b0 := eq_true c25); (have c25b1 : decide (((rd_T41 t151 x5_1).f1) ≤ (wrap64 (((rd_T41 t151 x5_1).f1) + 1))) = true := decide_eq_true c25); (by_cases c26 : (wrap64 (((rd_T41 t151 x5_1).f1) + 1)) ≤ (a0.size : Int))
             ·rw [if_pos c26] at H
              (have c26b0 := eq_true c26); (have c26b1 : decide ((wrap64 (((rd_T41 t151 x5_1).f1) + 1)) ≤ (a0.size : Int)) = true := decide_eq_true c26); (by_cases c27 : 1 + (a0.extract (((rd_T41 t151 x5_1).f1) : Int).toNat ((wrap64 (((rd_T41 t151 x5_1).f1) + 1)) : Int).toNat).size ≤ 9223372036854775807)
              ·rw [if_pos c27] at H
               (have c27b0 := eq_true c27); (have c27b1 : decide (1 + (a0.extract (((rd_T41 t151 x5_1).f1) : Int).toNat ((wrap64 (((rd_T41 t151 x5_1).f1) + 1)) : Int).toNat).size ≤ 9223372036854775807) = true := decide_eq_true c27); (try have c27b2 : (9223372036854775807 < 1 + (a0.extract (((rd_T41 t151 x5_1).f1) : Int).toNat ((wrap64 (((rd_T41 t151 x5_1).f1) + 1)) : Int).toNat).size) = False := eq_false (Nat.not_lt.2 c27)); (try have c27b4 : (9223372036854775807 < 1 + (((wrap64 (((rd_T41 t151 x5_1).f1) + 1)) : Int).toNat - (((rd_T41 t151 x5_1).f1) : Int).toNat)) = False := eq_false (Nat.not_lt.2 (by have h_ := c27; simp only [ByteArray.size_append, ByteArray.size_extract] at h_; omega))); (by_cases c28 : x3_1.size + ((⟨#[92]⟩ : ByteArray) ++ (a0.extract (((rd_T41 t151 x5_1).f1) : Int).toNat ((wrap64 (((rd_T41 t151 x5_1).f1) + 1)) : Int).toNat)).size ≤ 9223372036854775807)
               ·rw [if_pos c28] at H
                (have c28b0 := eq_true c28); (have c28b1 : decide (x3_1.size + ((⟨#[92]⟩ : ByteArray) ++ (a0.extract (((rd_T41 t151 x5_1).f1) : Int).toNat ((wrap64 (((rd_T41 t151 x5_1).f1) + 1)) : Int).toNat)).size ≤ 9223372036854775807) = true := decide_eq_true c28); (try have c28b2 : (9223372036854775807 < x3_1.size + ((⟨#[92]⟩ : ByteArray) ++ (a0.extract (((rd_T41 t151 x5_1).f1) : Int).toNat ((wrap64 (((rd_T41 t151 x5_1).f1) + 1)) : Int).toNat)).size) = False := eq_false (Nat.not_lt.2 c28)); (try have c28b3 : (9223372036854775807 < x3_1.size + (1 + (a0.extract (((rd_T41 t151 x5_1).f1) : Int).toNat ((wrap64 (((rd_T41 t151 x5_1).f1) + 1)) : Int).toNat).size)) = False := eq_false (Nat.not_lt.2 (by have h_ := c28; simp only [ByteArray.size_append] at h_; exact h_))); (try have c28b4 : (9223372036854775807 < x3_1.size + (1 + (((wrap64 (((rd_T41 t151 x5_1).f1) + 1)) : Int).toNat - (((rd_T41 t151 x5_1).f1) : Int).toNat))) = False := eq_false (Nat.not_lt.2 (by have h_ := c28; simp only [ByteArray.size_append, ByteArray.size_extract] at h_; omega))); (have H' := qM H); clear H; (have p159 : 0 ≤ (x5_1 : Int) := qo (by first | (with_reducible assumption) | assumption)); (have q159 : x5_1 < (t151.length : Int) := qo (by first | (with_reducible assumption) | assumption)); (obtain ⟨ad159, e159, hx159_0, hx159_1, hx159_2⟩ := at_T41 (Kd.R_reads' HO_4.out).2.2 x5_1 p159 q159); (obtain rfl : ad154 = ad159 := (by injection e159)); (replace p159 := eq_true p159); (replace q159 := eq_true q159); (have p160 : 0 ≤ (x5_1 : Int) := qo (by first | (with_reducible assumption) | assumption)); (have q160 : x5_1 < (t151.length : Int) := qo (by first | (with_reducible assumption) | assumption)); (obtain ⟨ad160, e160, hx160_0, hx160_1, hx160_2⟩ := at_T41 (Kd.R_reads' HO_4.out).2.2 x5_1 p160 q160); (obtain rfl : ad154 = ad160 := (by injection e160)); (replace p160 := eq_true p160); (replace q160 := eq_true q160); go_wp2; (repeat (go_quiet (fail); try go_wp2)); (go_roundg kj16)
                case measure => have := HK1.out; have := HJ16.out; omega
                case rel => exact ⟨(x3_1 ++ ((⟨#[92]⟩ : ByteArray) ++ (a0.extract (((rd_T41 t151 x5_1).f1) : Int).toNat ((wrap64 (((rd_T41 t151 x5_1).f1) + 1)) : Int).toNat))), (wrap64 (x5_1 + 1)), (by first | rfl | (simp; done) | (simp [*]; done)), (by first | rfl | (simp; done) | (simp [*]; done)), H', ⟨by have := HK1.out; have := HJ16.out; omega⟩, ⟨by (with_reducible repeat (first | apply Kd.R_alloc | apply Kd.R_drewN | apply Kd.R_drew)); exact HO_4.out⟩, ⟨by repeat (first | (with_reducible first | exact HB.out | apply qA | apply qN | apply qD) | exact HB.out)⟩⟩
               ·rw [if_neg c28] at H
                exact absurd H (by simp)
              ·rw [if_neg c27] at H
               exact absurd H (by simp)
             ·rw [if_neg c26] at H
              exact absurd H (by simp)
            ·rw [if_neg c25] at H
             exact absurd H (by simp)
           ·rw [if_neg c24] at H
            exact absurd H (by simp)
          ·rw [if_neg c23] at H
           exact absurd H (by simp)
         ·rw [if_neg c22] at H
          exact absurd H (by simp)
        ·replace c21 := Bool.eq_false_iff.mpr c21
         subst c21
         have H1 : (if ((rd_T41 t151 x5_1).f0) = 10 then (if x3_1.size + 2 ≤ 9223372036854775807 then (arboristref01_Quote.l0 kj16 a0 (x3_1 ++ (⟨#[92, 110]⟩ : ByteArray)) t151 (wrap64 (x5_1 + 1))) else (none)) else (if ((rd_T41 t151 x5_1).f0) = 13 then (if x3_1.size + 2 ≤ 9223372036854775807 then (arboristref01_Quote.l0 kj16 a0 (x3_1 ++ (⟨#[92, 114]⟩ : ByteArray)) t151 (wrap64 (x5_1 + 1))) else (none)) else (if ((rd_T41 t151 x5_1).f0) = 9 then (if x3_1.size + 2 ≤ 9223372036854775807 then (arboristref01_Quote.l0 kj16 a0 (x3_1 ++ (⟨#[92, 116]⟩ : ByteArray)) t151 (wrap64 (x5_1 + 1))) else (none)) else (if ((rd_T41 t151 x5_1).f0) ≥ 32 then (if ((rd_T41 t151 x5_1).f0) ≤ 126 then (if 0 ≤ x5_1 then (if x5_1 < (t151.length : Int) then (if 0 ≤ ((rd_T41 t151 x5_1).f1) then (if ((rd_T41 t151 x5_1).f1) ≤ (wrap64 (((rd_T41 t151 x5_1).f1) + 1)) then (if (wrap64 (((rd_T41 t151 x5_1).f1) + 1)) ≤ (a0.size : Int) then (if x3_1.size + (a0.extract (((rd_T41 t151 x5_1).f1) : Int).toNat ((wrap64 (((rd_T41 t151 x5_1).f1) + 1)) : Int).toNat).size ≤ 9223372036854775807 then (arboristref01_Quote.l0 kj16 a0 (x3_1 ++ (a0.extract (((rd_T41 t151 x5_1).f1) : Int).toNat ((wrap64 (((rd_T41 t151 x5_1).f1) + 1)) : Int).toNat)) t151 (wrap64 (x5_1 + 1))) else (none)) else (none)) else (none)) else (none)) else (none)) else (none)) else ((arboristref01_Hex.f kj16 (wrap64 (((rd_T41 t151 x5_1).f0))) 1).bind fun t163 => (if 3 + t163.size ≤ 9223372036854775807 then (if ((⟨#[92, 117, 123]⟩ : ByteArray) ++ t163).size + 1 ≤ 9223372036854775807 then (if x3_1.size + (((⟨#[92, 117, 123]⟩ : ByteArray) ++ t163) ++ (⟨#[125]⟩ : ByteArray)).size ≤ 9223372036854775807 then (arboristref01_Quote.l0 kj16 a0 (x3_1 ++ (((⟨#[92, 117, 123]⟩ : ByteArray) ++ t163) ++ (⟨#[125]⟩ : ByteArray))) t151 (wrap64 (x5_1 + 1))) else (none)) else (none)) else (none)))) else ((arboristref01_Hex.f kj16 (wrap64 (((rd_T41 t151 x5_1).f0))) 1).bind fun t164 => (if 3 + t164.size ≤ 9223372036854775807 then (if ((⟨#[92, 117, 123]⟩ : ByteArray) ++ t164).size + 1 ≤ 9223372036854775807 then (if x3_1.size + (((⟨#[92, 117, 123]⟩ : ByteArray) ++ t164) ++ (⟨#[125]⟩ : ByteArray)).size ≤ 9223372036854775807 then (arboristref01_Quote.l0 kj16 a0 (x3_1 ++ (((⟨#[92, 117, 123]⟩ : ByteArray) ++ t164) ++ (⟨#[125]⟩ : ByteArray))) t151 (wrap64 (x5_1 + 1))) else (none)) else (none)) else (none))))))) = some r := by rw [if_neg (show ¬ (false = true) by decide)] at H; exact H
         clear H; (have H := H1); clear H1; (by_cases c29 : ((rd_T41 t151 x5_1).f0) = 10)
         ·rw [if_pos c29] at H
          (have c29b0 : (((rd_T41 t151 x5_1).f0) == 10) = true := beq_iff_eq.mpr c29); (have c29b1 : (((rd_T41 t151 x5_1).f0) != 10) = false := bne_eq_false_iff_eq.mpr c29); clear c29; (by_cases c30 : x3_1.size + 2 ≤ 9223372036854775807)
          ·rw [if_pos c30] at H
           (have c30b0 := eq_true c30); (have c30b1 : decide (x3_1.size + 2 ≤ 9223372036854775807) = true := decide_eq_true c30); (try have c30b2 : (9223372036854775807 < x3_1.size + 2) = False := eq_false (Nat.not_lt.2 c30)); (have H' := qM H); clear H; go_wp2; (repeat (go_quiet (fail); try go_wp2)); (go_roundg kj16)
           case measure => have := HK1.out; have := HJ16.out; omega
           case rel => exact ⟨(x3_1 ++ (⟨#[92, 110]⟩ : ByteArray)), (wrap64 (x5_1 + 1)), (by first | rfl | (simp; done) | (simp [*]; done)), (by first | rfl | (simp; done) | (simp [*]; done)), H', ⟨by have := HK1.out; have := HJ16.out; omega⟩, ⟨by (with_reducible repeat (first | apply Kd.R_alloc | apply Kd.R_drewN | apply Kd.R_drew)); exact HO_4.out⟩, ⟨by repeat (first | (with_reducible first | exact HB.out | apply qA | apply qN | apply qD) | exact HB.out)⟩⟩
          ·rw [if_neg c30] at H
           exact absurd H (by simp)
         ·rw [if_neg c29] at H
          (have c29b0 : (((rd_T41 t151 x5_1).f0) == 10) = false := beq_eq_false_iff_ne.mpr c29); (have c29b1 : (((rd_T41 t151 x5_1).f0) != 10) = true := bne_iff_ne.mpr c29); (by_cases c31 : ((rd_T41 t151 x5_1).f0) = 13)
          ·rw [if_pos c31] at H
           (have c31b0 : (((rd_T41 t151 x5_1).f0) == 13) = true := beq_iff_eq.mpr c31); (have c31b1 : (((rd_T41 t151 x5_1).f0) != 13) = false := bne_eq_false_iff_eq.mpr c31); clear c31; (by_cases c32 : x3_1.size + 2 ≤ 9223372036854775807)
           ·rw [if_pos c32] at H
            (have c32b0 := eq_true c32); (have c32b1 : decide (x3_1.size + 2 ≤ 9223372036854775807) = true := decide_eq_true c32); (try have c32b2 : (9223372036854775807 < x3_1.size + 2) = False := eq_false (Nat.not_lt.2 c32)); (have H' := qM H); clear H; go_wp2; (repeat (go_quiet (fail); try go_wp2)); (go_roundg kj16)
            case measure => have := HK1.out; have := HJ16.out; omega
            case rel => exact ⟨(x3_1 ++ (⟨#[92, 114]⟩ : ByteArray)), (wrap64 (x5_1 + 1)), (by first | rfl | (simp; done) | (simp [*]; done)), (by first | rfl | (simp; done) | (simp [*]; done)), H', ⟨by have := HK1.out; have := HJ16.out; omega⟩, ⟨by (with_reducible repeat (first | apply Kd.R_alloc | apply Kd.R_drewN | apply Kd.R_drew)); exact HO_4.out⟩, ⟨by repeat (first | (with_reducible first | exact HB.out | apply qA | apply qN | apply qD) | exact HB.out)⟩⟩
           ·rw [if_neg c32] at H
            exact absurd H (by simp)
          ·rw [if_neg c31] at H
           (have c31b0 : (((rd_T41 t151 x5_1).f0) == 13) = false := beq_eq_false_iff_ne.mpr c31); (have c31b1 : (((rd_T41 t151 x5_1).f0) != 13) = true := bne_iff_ne.mpr c31); (by_cases c33 : ((rd_T41 t151 x5_1).f0) = 9)
           ·rw [if_pos c33] at H
            (have c33b0 : (((rd_T41 t151 x5_1).f0) == 9) = true := beq_iff_eq.mpr c33); (have c33b1 : (((rd_T41 t151 x5_1).f0) != 9) = false := bne_eq_false_iff_eq.mpr c33); clear c33; (by_cases c34 : x3_1.size + 2 ≤ 9223372036854775807)
            ·rw [if_pos c34] at H
             (have c34b0 := eq_true c34); (have c34b1 : decide (x3_1.size + 2 ≤ 9223372036854775807) = true := decide_eq_true c34); (try have c34b2 : (9223372036854775807 < x3_1.size + 2) = False := eq_false (Nat.not_lt.2 c34)); (have H' := qM H); clear H; go_wp2; (repeat (go_quiet (fail); try go_wp2)); (go_roundg kj16)
             case measure => have := HK1.out; have := HJ16.out; omega
             case rel => exact ⟨(x3_1 ++ (⟨#[92, 116]⟩ : ByteArray)), (wrap64 (x5_1 + 1)), (by first | rfl | (simp; done) | (simp [*]; done)), (by first | rfl | (simp; done) | (simp [*]; done)), H', ⟨by have := HK1.out; have := HJ16.out; omega⟩, ⟨by (with_reducible repeat (first | apply Kd.R_alloc | apply Kd.R_drewN | apply Kd.R_drew)); exact HO_4.out⟩, ⟨by repeat (first | (with_reducible first | exact HB.out | apply qA | apply qN | apply qD) | exact HB.out)⟩⟩
            ·rw [if_neg c34] at H
             exact absurd H (by simp)
           ·rw [if_neg c33] at H
            (have c33b0 : (((rd_T41 t151 x5_1).f0) == 9) = false := beq_eq_false_iff_ne.mpr c33); (have c33b1 : (((rd_T41 t151 x5_1).f0) != 9) = true := bne_iff_ne.mpr c33); (by_cases c35 : ((rd_T41 t151 x5_1).f0) ≥ 32)
            ·rw [if_pos c35] at H
             (have c35b0 : decide (32 ≤ ((rd_T41 t151 x5_1).f0)) = true := decide_eq_true c35); clear c35; (by_cases c36 : ((rd_T41 t151 x5_1).f0) ≤ 126)
             ·rw [if_pos c36] at H
              (have c36b0 : decide (((rd_T41 t151 x5_1).f0) ≤ 126) = true := decide_eq_true c36); clear c36; (by_cases c37 : 0 ≤ x5_1)
              ·rw [if_pos c37] at H
               (have c37b0 : decide (0 ≤ x5_1) = true := decide_eq_true c37); clear c37; (by_cases c38 : x5_1 < (t151.length : Int))
               ·rw [if_pos c38] at H
                (have c38b0 : decide (x5_1 < (t151.length : Int)) = true := decide_eq_true c38); clear c38; (by_cases c39 : 0 ≤ ((rd_T41 t151 x5_1).f1))
                ·rw [if_pos c39] at H
                 (have c39b0 := eq_true c39); (have c39b1 : decide (0 ≤ ((rd_T41 t151 x5_1).f1)) = true := decide_eq_true c39); clear c39; (by_cases c40 : ((rd_T41 t151 x5_1).f1) ≤ (wrap64 (((rd_T41 t151 x5_1).f1) + 1)))
                 ·rw [if_pos c40] at H
                  (have c40b0 := eq_true c40); (have c40b1 : decide (((rd_T41 t151 x5_1).f1) ≤ (wrap64 (((rd_T41 t151 x5_1).f1) + 1))) = true := decide_eq_true c40); (by_cases c41 : (wrap64 (((rd_T41 t151 x5_1).f1) + 1)) ≤ (a0.size : Int))
                  ·rw [if_pos c41] at H
                   (have c41b0 := eq_true c41); (have c41b1 : decide ((wrap64 (((rd_T41 t151 x5_1).f1) + 1)) ≤ (a0.size : Int)) = true := decide_eq_true c41); (by_cases c42 : x3_1.size + (a0.extract (((rd_T41 t151 x5_1).f1) : Int).toNat ((wrap64 (((rd_T41 t151 x5_1).f1) + 1)) : Int).toNat).size ≤ 9223372036854775807)
                   ·rw [if_pos c42] at H
                    (have c42b0 := eq_true c42); (have c42b1 : decide (x3_1.size + (a0.extract (((rd_T41 t151 x5_1).f1) : Int).toNat ((wrap64 (((rd_T41 t151 x5_1).f1) + 1)) : Int).toNat).size ≤ 9223372036854775807) = true := decide_eq_true c42); (try have c42b2 : (9223372036854775807 < x3_1.size + (a0.extract (((rd_T41 t151 x5_1).f1) : Int).toNat ((wrap64 (((rd_T41 t151 x5_1).f1) + 1)) : Int).toNat).size) = False := eq_false (Nat.not_lt.2 c42)); (try have c42b4 : (9223372036854775807 < x3_1.size + (((wrap64 (((rd_T41 t151 x5_1).f1) + 1)) : Int).toNat - (((rd_T41 t151 x5_1).f1) : Int).toNat)) = False := eq_false (Nat.not_lt.2 (by have h_ := c42; simp only [ByteArray.size_append, ByteArray.size_extract] at h_; omega))); (have H' := qM H); clear H; (have p161 : 0 ≤ (x5_1 : Int) := qo (by first | (with_reducible assumption) | assumption)); (have q161 : x5_1 < (t151.length : Int) := qo (by first | (with_reducible assumption) | assumption)); (obtain ⟨ad161, e161, hx161_0, hx161_1, hx161_2⟩ := at_T41 (Kd.R_reads' HO_4.out).2.2 x5_1 p161 q161); (obtain rfl : ad154 = ad161 := (by injection e161)); (replace p161 := eq_true p161); (replace q161 := eq_true q161); (have p162 : 0 ≤ (x5_1 : Int) := qo (by first | (with_reducible assumption) | assumption)); (have q162 : x5_1 < (t151.length : Int) := qo (by first | (with_reducible assumption) | assumption)); (obtain ⟨ad162, e162, hx162_0, hx162_1, hx162_2⟩ := at_T41 (Kd.R_reads' HO_4.out).2.2 x5_1 p162 q162); (obtain rfl : ad154 = ad162 := (by injection e162)); (replace p162 := eq_true p162); (replace q162 := eq_true q162); go_wp2; (repeat (go_quiet (fail); try go_wp2)); (go_roundg kj16)
                    case measure => have := HK1.out; have := HJ16.out; omega
                    case rel => exact ⟨(x3_1 ++ (a0.extract (((rd_T41 t151 x5_1).f1) : Int).toNat ((wrap64 (((rd_T41 t151 x5_1).f1) + 1)) : Int).toNat)), (wrap64 (x5_1 + 1)), (by first | rfl | (simp; done) | (simp [*]; done)), (by first | rfl | (simp; done) | (simp [*]; done)), H', ⟨by have := HK1.out; have := HJ16.out; omega⟩, ⟨by (with_reducible repeat (first | apply Kd.R_alloc | apply Kd.R_drewN | apply Kd.R_drew)); exact HO_4.out⟩, ⟨by repeat (first | (with_reducible first | exact HB.out | apply qA | apply qN | apply qD) | exact HB.out)⟩⟩
                   ·rw [if_neg c42] at H
                    exact absurd H (by simp)
                  ·rw [if_neg c41] at H
                   exact absurd H (by simp)
                 ·rw [if_neg c40] at H
                  exact absurd H (by simp)
                ·rw [if_neg c39] at H
                 exact absurd H (by simp)
               ·rw [if_neg c38] at H
                exact absurd H (by simp)
              ·rw [if_neg c37] at H
               exact absurd H (by simp)
             ·rw [if_neg c36] at H
              (have c36b0 : decide (((rd_T41 t151 x5_1).f0) ≤ 126) = false := decide_eq_false c36); clear c36; (replace H := Option.bind_eq_some_iff.mp H); (obtain ⟨t163, A430, H⟩ := H); (replace H : (if 3 + t163.size ≤ 9223372036854775807 then (if ((⟨#[92, 117, 123]⟩ : ByteArray) ++ t163).size + 1 ≤ 9223372036854775807 then (if x3_1.size + (((⟨#[92, 117, 123]⟩ : ByteArray) ++ t163) ++ (⟨#[125]⟩ : ByteArray)).size ≤ 9223372036854775807 then (arboristref01_Quote.l0 kj16 a0 (x3_1 ++ (((⟨#[92, 117, 123]⟩ : ByteArray) ++ t163) ++ (⟨#[125]⟩ : ByteArray))) t151 (wrap64 (x5_1 + 1))) else (none)) else (none)) else (none)) = some r := H); (have A43 := qM A430); clear A430; (by_cases c44 : 3 + t163.size ≤ 9223372036854775807)
              ·rw [if_pos c44] at H
               (have c44b0 := eq_true c44); (have c44b1 : decide (3 + t163.size ≤ 9223372036854775807) = true := decide_eq_true c44); (try have c44b2 : (9223372036854775807 < 3 + t163.size) = False := eq_false (Nat.not_lt.2 c44)); (by_cases c45 : ((⟨#[92, 117, 123]⟩ : ByteArray) ++ t163).size + 1 ≤ 9223372036854775807)
               ·rw [if_pos c45] at H
                (have c45b0 := eq_true c45); (have c45b1 : decide (((⟨#[92, 117, 123]⟩ : ByteArray) ++ t163).size + 1 ≤ 9223372036854775807) = true := decide_eq_true c45); (try have c45b2 : (9223372036854775807 < ((⟨#[92, 117, 123]⟩ : ByteArray) ++ t163).size + 1) = False := eq_false (Nat.not_lt.2 c45)); (try have c45b3 : (9223372036854775807 < 3 + t163.size + 1) = False := eq_false (Nat.not_lt.2 (by have h_ := c45; simp only [ByteArray.size_append] at h_; exact h_))); (by_cases c46 : x3_1.size + (((⟨#[92, 117, 123]⟩ : ByteArray) ++ t163) ++ (⟨#[125]⟩ : ByteArray)).size ≤ 9223372036854775807)
                ·rw [if_pos c46] at H
                 (have c46b0 := eq_true c46); (have c46b1 : decide (x3_1.size + (((⟨#[92, 117, 123]⟩ : ByteArray) ++ t163) ++ (⟨#[125]⟩ : ByteArray)).size ≤ 9223372036854775807) = true := decide_eq_true c46); (try have c46b2 : (9223372036854775807 < x3_1.size + (((⟨#[92, 117, 123]⟩ : ByteArray) ++ t163) ++ (⟨#[125]⟩ : ByteArray)).size) = False := eq_false (Nat.not_lt.2 c46)); (try have c46b3 : (9223372036854775807 < x3_1.size + (3 + t163.size + 1)) = False := eq_false (Nat.not_lt.2 (by have h_ := c46; simp only [ByteArray.size_append] at h_; exact h_))); (have H' := qM H); clear H; (go_wp2_with (first | (go_at_call 40; (with_reducible refine (arboristref01_Hex.calls kj16 (wrap64 (((rd_T41 t151 x5_1).f0))) 1 t163 _ A43.out).mono ?_); rintro e w' ⟨rfl, ⟨nd, rfl⟩⟩; (try first | exact ⟨rfl, _, World.drewN_drewN _ _ _⟩ | exact ⟨rfl, _, Eq.trans (World.drewN_drewN _ _ _) (congrArg (World.drewN _) (Nat.add_assoc _ _ _))⟩)))); (repeat (go_quiet (first | (go_at_call 40; (with_reducible refine (arboristref01_Hex.calls kj16 (wrap64 (((rd_T41 t151 x5_1).f0))) 1 t163 _ A43.out).mono ?_); rintro e w' ⟨rfl, ⟨nd, rfl⟩⟩; (try first | exact ⟨rfl, _, World.drewN_drewN _ _ _⟩ | exact ⟨rfl, _, Eq.trans (World.drewN_drewN _ _ _) (congrArg (World.drewN _) (Nat.add_assoc _ _ _))⟩))); try go_wp2_with (first | (go_at_call 40; (with_reducible refine (arboristref01_Hex.calls kj16 (wrap64 (((rd_T41 t151 x5_1).f0))) 1 t163 _ A43.out).mono ?_); rintro e w' ⟨rfl, ⟨nd, rfl⟩⟩; (try first | exact ⟨rfl, _, World.drewN_drewN _ _ _⟩ | exact ⟨rfl, _, Eq.trans (World.drewN_drewN _ _ _) (congrArg (World.drewN _) (Nat.add_assoc _ _ _))⟩))))); (go_roundg kj16)
                 case measure => have := HK1.out; have := HJ16.out; omega
                 case rel => exact ⟨(x3_1 ++ (((⟨#[92, 117, 123]⟩ : ByteArray) ++ t163) ++ (⟨#[125]⟩ : ByteArray))), (wrap64 (x5_1 + 1)), (by first | rfl | (simp; done) | (simp [*]; done)), (by first | rfl | (simp; done) | (simp [*]; done)), H', ⟨by have := HK1.out; have := HJ16.out; omega⟩, ⟨by (with_reducible repeat (first | apply Kd.R_alloc | apply Kd.R_drewN | apply Kd.R_drew)); exact HO_4.out⟩, ⟨by repeat (first | (with_reducible first | exact HB.out | apply qA | apply qN | apply qD) | exact HB.out)⟩⟩
                ·rw [if_neg c46] at H
                 exact absurd H (by simp)
               ·rw [if_neg c45] at H
                exact absurd H (by simp)
              ·rw [if_neg c44] at H
               exact absurd H (by simp)
            ·rw [if_neg c35] at H
             (have c35b0 : decide (32 ≤ ((rd_T41 t151 x5_1).f0)) = false := decide_eq_false c35); clear c35; (replace H := Option.bind_eq_some_iff.mp H); (obtain ⟨t164, A470, H⟩ := H); (replace H : (if 3 + t164.size ≤ 9223372036854775807 then (if ((⟨#[92, 117, 123]⟩ : ByteArray) ++ t164).size + 1 ≤ 9223372036854775807 then (if x3_1.size + (((⟨#[92, 117, 123]⟩ : ByteArray) ++ t164) ++ (⟨#[125]⟩ : ByteArray)).size ≤ 9223372036854775807 then (arboristref01_Quote.l0 kj16 a0 (x3_1 ++ (((⟨#[92, 117, 123]⟩ : ByteArray) ++ t164) ++ (⟨#[125]⟩ : ByteArray))) t151 (wrap64 (x5_1 + 1))) else (none)) else (none)) else (none)) = some r := H); (have A47 := qM A470); clear A470; (by_cases c48 : 3 + t164.size ≤ 9223372036854775807)
             ·rw [if_pos c48] at H
              (have c48b0 := eq_true c48); (have c48b1 : decide (3 + t164.size ≤ 9223372036854775807) = true := decide_eq_true c48); (try have c48b2 : (9223372036854775807 < 3 + t164.size) = False := eq_false (Nat.not_lt.2 c48)); (by_cases c49 : ((⟨#[92, 117, 123]⟩ : ByteArray) ++ t164).size + 1 ≤ 9223372036854775807)
              ·rw [if_pos c49] at H
               (have c49b0 := eq_true c49); (have c49b1 : decide (((⟨#[92, 117, 123]⟩ : ByteArray) ++ t164).size + 1 ≤ 9223372036854775807) = true := decide_eq_true c49); (try have c49b2 : (9223372036854775807 < ((⟨#[92, 117, 123]⟩ : ByteArray) ++ t164).size + 1) = False := eq_false (Nat.not_lt.2 c49)); (try have c49b3 : (9223372036854775807 < 3 + t164.size + 1) = False := eq_false (Nat.not_lt.2 (by have h_ := c49; simp only [ByteArray.size_append] at h_; exact h_))); (by_cases c50 : x3_1.size + (((⟨#[92, 117, 123]⟩ : ByteArray) ++ t164) ++ (⟨#[125]⟩ : ByteArray)).size ≤ 9223372036854775807)
               ·rw [if_pos c50] at H
                (have c50b0 := eq_true c50); (have c50b1 : decide (x3_1.size + (((⟨#[92, 117, 123]⟩ : ByteArray) ++ t164) ++ (⟨#[125]⟩ : ByteArray)).size ≤ 9223372036854775807) = true := decide_eq_true c50); (try have c50b2 : (9223372036854775807 < x3_1.size + (((⟨#[92, 117, 123]⟩ : ByteArray) ++ t164) ++ (⟨#[125]⟩ : ByteArray)).size) = False := eq_false (Nat.not_lt.2 c50)); (try have c50b3 : (9223372036854775807 < x3_1.size + (3 + t164.size + 1)) = False := eq_false (Nat.not_lt.2 (by have h_ := c50; simp only [ByteArray.size_append] at h_; exact h_))); (have H' := qM H); clear H; (go_wp2_with (first | (go_at_call 40; (with_reducible refine (arboristref01_Hex.calls kj16 (wrap64 (((rd_T41 t151 x5_1).f0))) 1 t164 _ A47.out).mono ?_); rintro e w' ⟨rfl, ⟨nd, rfl⟩⟩; (try first | exact ⟨rfl, _, World.drewN_drewN _ _ _⟩ | exact ⟨rfl, _, Eq.trans (World.drewN_drewN _ _ _) (congrArg (World.drewN _) (Nat.add_assoc _ _ _))⟩)))); (repeat (go_quiet (first | (go_at_call 40; (with_reducible refine (arboristref01_Hex.calls kj16 (wrap64 (((rd_T41 t151 x5_1).f0))) 1 t164 _ A47.out).mono ?_); rintro e w' ⟨rfl, ⟨nd, rfl⟩⟩; (try first | exact ⟨rfl, _, World.drewN_drewN _ _ _⟩ | exact ⟨rfl, _, Eq.trans (World.drewN_drewN _ _ _) (congrArg (World.drewN _) (Nat.add_assoc _ _ _))⟩))); try go_wp2_with (first | (go_at_call 40; (with_reducible refine (arboristref01_Hex.calls kj16 (wrap64 (((rd_T41 t151 x5_1).f0))) 1 t164 _ A47.out).mono ?_); rintro e w' ⟨rfl, ⟨nd, rfl⟩⟩; (try first | exact ⟨rfl, _, World.drewN_drewN _ _ _⟩ | exact ⟨rfl, _, Eq.trans (World.drewN_drewN _ _ _) (congrArg (World.drewN _) (Nat.add_assoc _ _ _))⟩))))); (go_roundg kj16)
                case measure => have := HK1.out; have := HJ16.out; omega
                case rel => exact ⟨(x3_1 ++ (((⟨#[92, 117, 123]⟩ : ByteArray) ++ t164) ++ (⟨#[125]⟩ : ByteArray))), (wrap64 (x5_1 + 1)), (by first | rfl | (simp; done) | (simp [*]; done)), (by first | rfl | (simp; done) | (simp [*]; done)), H', ⟨by have := HK1.out; have := HJ16.out; omega⟩, ⟨by (with_reducible repeat (first | apply Kd.R_alloc | apply Kd.R_drewN | apply Kd.R_drew)); exact HO_4.out⟩, ⟨by repeat (first | (with_reducible first | exact HB.out | apply qA | apply qN | apply qD) | exact HB.out)⟩⟩
               ·rw [if_neg c50] at H
                exact absurd H (by simp)
              ·rw [if_neg c49] at H
               exact absurd H (by simp)
             ·rw [if_neg c48] at H
              exact absurd H (by simp)
    ·rw [if_neg c5] at H
     exact absurd H (by simp)
   ·rw [if_neg c4] at H
    (have c4b0 : decide (x5_1 < (t151.length : Int)) = false := decide_eq_false c4); clear c4; (by_cases c51 : x3_1.size + 1 ≤ 9223372036854775807)
    ·rw [if_pos c51] at H
     (have c51b0 := eq_true c51); (have c51b1 : decide (x3_1.size + 1 ≤ 9223372036854775807) = true := decide_eq_true c51); (try have c51b2 : (9223372036854775807 < x3_1.size + 1) = False := eq_false (Nat.not_lt.2 c51)); (obtain rfl := Option.some.inj H); (obtain ⟨Ao52, co52, eo52⟩ := Kd.R_slice HO_4.out); subst eo52; go_wp2; (repeat (go_quiet (fail); try go_wp2)); (go_ret); (exact ⟨by first | rfl | (simp [errW_none, errW_some] <;> rfl) | (simp [*, errW_none, errW_some] <;> rfl), by repeat (first | (with_reducible first | exact HB.out | apply qA | apply qN | apply qD) | exact HB.out)⟩)
    ·rw [if_neg c51] at H
     exact absurd H (by simp)
end Go.Proofs.YtlpkkkkgbnoiiaaDoor.H
end
