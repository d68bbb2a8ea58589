/- A part (2 of 3) of this proof: Show formats and Read parses numbers as the reference does, and Read inverts Show for numbers from 0 on, for every text and all numbers that the guards let in. -/
import Derived.Test.YtlpkkkkgbnoiiaaDoorRows
import Derived.WalkKit
import Derived.ProofKit
import Derived.OpenShut
import Derived.ShutString
import Derived.ChangeOld
import Derived.Below
import Derived.SizedLaws
import Derived.Maps.Own
import Derived.Maps.OwnOps
import Derived.Maps.OwnSet
import Derived.Handy
import Derived.Outline
import Derived.Lib.OthersKept
import Derived.Lib.RuneBytes
import Derived.Lib.RuneLoops
import Derived.Lib.RuneCountTail
import Derived.Lib.TrimU
import Derived.Lib.QuoteLoop
import Derived.Laws.RangeAny
import Derived.Lib.ConvBytes
import Derived.Lib.Bytealg
import Derived.Lib.ParseIntBMem
import Derived.Lib.ItoaNum
import Derived.Test.YtlpkkkkgbnoiiaaDoorZf1
section
namespace Go.Proofs.YtlpkkkkgbnoiiaaDoor.H
open Go.RowKit Go.ChangeShapes Go.WideShapes Go.ChangeAt Go.Proofs.YtlpkkkkgbnoiiaaDoorW.PrintWords Go.Proofs.YtlpkkkkgbnoiiaaDoorW.PrintLast Go.Proofs.YtlpkkkkgbnoiiaaDoorW.PrintMore
set_option linter.unusedVariables false
set_option linter.unusedSimpArgs false
structure Opens (b : Nat) {α : Type} (P : Program) (t : TypeId) (K : Kd α) (ok : α → Prop) (sz : α → Nat) : Prop where
  cells : P.cellsOf t = K.sz
  op : ∀ {H : Type} {enc : TypeId × Value → H} {W : World} {base : Nat} {sp : Nat → Bool} {held : Bool} {n : Nat} {cs : List Value} {x : DataW H × List MemPlace}, n ≤ b →
    DataW.trod enc P W base sp held n t cs = some x → (∀ u ∈ DataW.weights P t x.1, u ≤ reachBytes) → ∃ v, K.K W v cs ∧ ok v ∧ sz v ≤ Rows.uptoBulk x.1
section
variable {b : Nat} {P : Program} {α β : Type} {t e : TypeId}
theorem Opens.imp {K : Kd α} {ok ok' : α → Prop} {sz sz' : α → Nat} (h : Opens b P t K ok sz) (hi : ∀ x, ok x → ok' x) (hs : ∀ x, sz' x ≤ sz x) : Opens b P t K ok' sz' :=
  ⟨h.cells, fun hn h0 hw => by obtain ⟨v, hk, ho, hz⟩ := h.op hn h0 hw; exact ⟨v, hk, hi v ho, Nat.le_trans (hs v) hz⟩⟩
theorem Opens.of {H : Type} {enc : TypeId × Value → H} {W : World} {base : Nat} {sp : Nat → Bool} {held : Bool} {K : Kd α} {ok : α → Prop} {sz : α → Nat} (h : ∀ b, Opens b P t K ok sz) {v : Value} {d : DataW H} {ps : List MemPlace} {ts : List TypeId} {ds : List (DataW H)} {j : Nat}
    (hsz : (DataW.weightsEach P ts ds).all (· ≤ reachBytes) = true) (ht : ts[j]? = some t) (hd : ds[j]? = some d) (h0 : DataW.Trod enc P W base sp held t v d ps) : ∃ x, K.K W x v.cells.toList ∧ ok x ∧ sz x ≤ Rows.uptoBulk d := by
  obtain ⟨fuel, hf⟩ := h0
  exact (h fuel).op (Nat.le_refl _) hf (fun u hu => by simpa using List.all_eq_true.1 hsz u (DataW.weights_mem_each ht hd u hu))
end
end Go.Proofs.YtlpkkkkgbnoiiaaDoor.H
end
section
namespace Go.Proofs.YtlpkkkkgbnoiiaaDoor.H
open Go.RowKit Go.ChangeShapes Go.WideShapes Go.ChangeAt Go.Proofs.YtlpkkkkgbnoiiaaDoorW.PrintWords Go.Proofs.YtlpkkkkgbnoiiaaDoorW.PrintLast Go.Proofs.YtlpkkkkgbnoiiaaDoorW.PrintMore
set_option linter.unusedVariables false
end Go.Proofs.YtlpkkkkgbnoiiaaDoor.H
end
section
namespace Go.Proofs.YtlpkkkkgbnoiiaaDoor.H
open Go.RowKit Go.Proofs.YtlpkkkkgbnoiiaaDoorW.PrintWords Go.Proofs.YtlpkkkkgbnoiiaaDoorW.PrintLast Go.Proofs.YtlpkkkkgbnoiiaaDoorW.PrintMore
open Go.WideMaps Go.Maps
set_option linter.unusedVariables false
set_option linter.unusedSimpArgs false
theorem ba_ext {a b : ByteArray} (h : a.data.toList = b.data.toList) : a = b := by
  cases a; cases b; simp_all
instance decBA : DecidableEq ByteArray := fun a b => decidable_of_iff (a.data.toList = b.data.toList) ⟨ba_ext, fun h => by rw [h]⟩
instance decMemBA (s : ByteArray) (l : List ByteArray) : Decidable (s ∈ l) := decidable_of_iff (l.any (fun y => decide (y = s)) = true) (by simp)
end Go.Proofs.YtlpkkkkgbnoiiaaDoor.H
end
section
namespace Go.Proofs.YtlpkkkkgbnoiiaaDoor.H
open Go.RowKit Go.Proofs.YtlpkkkkgbnoiiaaDoorW.PrintWords Go.Proofs.YtlpkkkkgbnoiiaaDoorW.PrintLast Go.Proofs.YtlpkkkkgbnoiiaaDoorW.PrintMore
attribute [local go_sem] max2_int min2_int max_two min_two max_three min_three max_four min_four
set_option linter.unusedVariables false
set_option linter.unusedSimpArgs false
theorem eqA25 (d : Nat) (w : World) (x0 y0 : Int) (x1 y1 : Int) :
  (Op.equalIn (d + 2) 25 (.agg #[.int .i64 x0, .int .i64 x1]) (.agg #[.int .i64 y0, .int .i64 y1])).run Tryd.prog w = .ok (x0 == y0 && (x1 == y1)) w := by
 (refine eqA_of Tryd.underlying25 (by kernel_rfl) ?_); (refine eqf_cons (by rfl) (by go_simp; rfl) (by go_simp; rfl) (by go_simp) ?_); (exact eqf_last (by rfl) (by go_simp; rfl) (by go_simp; rfl) (by go_simp))
end Go.Proofs.YtlpkkkkgbnoiiaaDoor.H
end
section
namespace Go.Proofs.YtlpkkkkgbnoiiaaDoor.H
open Go.RowKit
set_option linter.unusedVariables false
set_option linter.unusedSimpArgs false
theorem rune_w_pos (s : ByteArray) (pos : Nat) : 1 ≤ (Utf8.decode s pos).2 := Lib.width_pos s pos
theorem rune_w_le (s : ByteArray) (pos : Nat) (h : pos < s.size) : pos + (Utf8.decode s pos).2 ≤ s.size := by
  have h1 := Lib.tail_decode s pos 0
  have h2 := Lib.width_le (s.extract pos s.size) (by simp; omega)
  rw [Lib.tail_decode] at h2
  simp at h2
  omega
def seamsFrom (s : ByteArray) : Nat → Nat → Int → Int → List (Int × Int × Int)
  | 0, _, l, c => [((s.size : Int), l, c)]
  | f + 1, pos, l, c => if pos < s.size then ((pos : Int), l, c) :: (if (Utf8.decode s pos).1 = 10 then seamsFrom s f (pos + (Utf8.decode s pos).2) (l + 1) 1 else seamsFrom s f (pos + (Utf8.decode s pos).2) l (c + 1)) else [((s.size : Int), l, c)]
def seamsL (s : ByteArray) : List (Int × Int × Int) := seamsFrom s s.size 0 1 1
theorem seamsFrom_end (s : ByteArray) (f pos : Nat) (l c : Int) (h : ¬ pos < s.size) : seamsFrom s f pos l c = [((s.size : Int), l, c)] := by
  cases f <;> simp [seamsFrom, h]
def runesFrom (s : ByteArray) : Nat → Nat → List S41
  | 0, _ => []
  | f + 1, pos => if pos < s.size then ⟨((Utf8.decode s pos).1 : Int), (pos : Int), ((Utf8.decode s pos).2 : Int)⟩ :: runesFrom s f (pos + (Utf8.decode s pos).2) else []
def runesL (s : ByteArray) : List S41 := runesFrom s s.size 0
theorem runesFrom_end (s : ByteArray) (f pos : Nat) (h : ¬ pos < s.size) : runesFrom s f pos = [] := by
  cases f <;> simp [runesFrom, h]
end Go.Proofs.YtlpkkkkgbnoiiaaDoor.H
end
section
namespace Go.Proofs.YtlpkkkkgbnoiiaaDoor.H
open Go.RowKit Go.Proofs.YtlpkkkkgbnoiiaaDoorW.PrintWords Go.Proofs.YtlpkkkkgbnoiiaaDoorW.PrintLast Go.Proofs.YtlpkkkkgbnoiiaaDoorW.PrintMore
attribute [local go_sem] max2_int min2_int max_two min_two max_three min_three max_four min_four
set_option linter.unusedVariables false
set_option linter.unusedSimpArgs false
def utf8_ValidRune.j0 : Nat → Int → Bool → Option (Bool)
 | 0, _, _ => none
 | k + 1, x0, x3 => if x3 = true then (some true) else (if 57343 < x0 then (if x0 ≤ 1114111 then (some true) else (some false)) else (some false))
def utf8_ValidRune.f (k : Nat) (a0 : Int) : Option (Bool) := if 0 ≤ a0 then (utf8_ValidRune.j0 k a0 (decide (a0 < 55296))) else (utf8_ValidRune.j0 k a0 false)
theorem utf8_ValidRune.mono_l : ∀ k, (∀ y0 y1, LeO (utf8_ValidRune.j0 k y0 y1) (utf8_ValidRune.j0 (k + 1) y0 y1))
 | 0 => fun _ _ r h => by simp [utf8_ValidRune.j0] at h
 | k + 1 => by
  have ih0 := utf8_ValidRune.mono_l k
  ·intro y0 y1
   unfold utf8_ValidRune.j0
   repeat' first
   | (with_reducible exact ih0 _ _)
   | (with_reducible exact LeO.refl _)
   | (with_reducible exact LeO.none _)
   | (with_reducible refine LeO.ite ?_ ?_)
   | (with_reducible refine LeO.bind ?_ (fun _ => ?_))
   | exact ih0 _ _
   | exact LeO.none _
   | refine LeO.ite ?_ ?_
   | refine LeO.bind ?_ (fun _ => ?_)
theorem utf8_ValidRune.mono : ∀ a0 k, LeO (utf8_ValidRune.f k a0) (utf8_ValidRune.f (k + 1) a0) := by
 (intro a0 k); (have ih0 := utf8_ValidRune.mono_l k); (unfold utf8_ValidRune.f)
 repeat' first
   | (with_reducible exact ih0 _ _)
   | (with_reducible exact LeO.refl _)
   | (with_reducible exact LeO.none _)
   | (with_reducible refine LeO.ite ?_ ?_)
   | (with_reducible refine LeO.bind ?_ (fun _ => ?_))
   | exact ih0 _ _
   | exact LeO.none _
   | refine LeO.ite ?_ ?_
   | refine LeO.bind ?_ (fun _ => ?_)
set_option maxHeartbeats 8000000 in
set_option maxRecDepth 100000 in
theorem utf8_ValidRune.calls (k : Nat) (a0 : Int) (r : Bool) (w : World) (h : utf8_ValidRune.f k a0 = some r) :
  Calls Tryd.prog 52 #[.int .i32 a0] w fun e w' => e = .returned (.bool r) ∧ Drawn0 w w' := by
 (have H : (if 0 ≤ a0 then (utf8_ValidRune.j0 k a0 (decide (a0 < 55296))) else (utf8_ValidRune.j0 k a0 false)) = some r := h); clear h; (have HC2 := qM H); clear H; (go_enter Tryd.func52, Tryd.ntmps52); (go_upto_region 1 with (fail)); (go_cut [3] (fun v3 wc => ∃ (kq : Nat) (x3_1 : Bool), v3 = .bool x3_1 ∧ Aside0 (utf8_ValidRune.j0 kq a0 x3_1 = some r) ∧ Aside0 (kq ≤ k) ∧ Drawn0 w wc))
 case first =>
  (have H := HC2.out); clear HC2; (by_cases c3 : 0 ≤ a0)
  ·rw [if_pos c3] at H
   (have c3b0 : decide (0 ≤ a0) = true := decide_eq_true c3); clear c3; ((first | rw [c3b0] | (simp only [i64_w, i32_w]; rw [c3b0]) | skip)); (have H' := qM H); clear H; go_wp2; go_meet
   case rel => exact ⟨_, (decide (a0 < 55296)), qV, H', ⟨by first | omega | exact Nat.le_refl _⟩, by repeat (first | exact Drawn0.refl _ | apply Drawn0.step)⟩
  ·rw [if_neg c3] at H
   (have c3b0 : decide (0 ≤ a0) = false := decide_eq_false c3); clear c3; ((first | rw [c3b0] | (simp only [i64_w, i32_w]; rw [c3b0]) | skip)); (have H' := qM H); clear H; go_wp2; go_meet
   case rel => exact ⟨_, (false), qV, H', ⟨by first | omega | exact Nat.le_refl _⟩, by repeat (first | exact Drawn0.refl _ | apply Drawn0.step)⟩
 case rest =>
  clear HC2; (try clear p2); (try clear c3); (try clear c3b0); (obtain ⟨kq, x3_1, rfl, HA, HJ1, ⟨mc1, rfl⟩⟩ := hcut)
  cases kq with
  | zero => exact absurd HA.out (by simp [utf8_ValidRune.j0])
  | succ kj1 =>
   (have H := HA.out); clear HA; (simp only [utf8_ValidRune.j0] at H); (by_cases c4 : x3_1 = true)
   ·subst c4
    (have H1 : (some true) = some r := by rw [if_pos rfl] at H; exact H); clear H; (have H := H1); clear H1; (obtain rfl := Option.some.inj H); go_wp2; (go_ret); (exact ⟨qV, by repeat (first | exact Drawn0.refl _ | apply Drawn0.step)⟩)
   ·replace c4 := Bool.eq_false_iff.mpr c4
    subst c4; (have H1 : (if 57343 < a0 then (if a0 ≤ 1114111 then (some true) else (some false)) else (some false)) = some r := by rw [if_neg (show ¬ (false = true) by decide)] at H; exact H); clear H; (have H := H1); clear H1; (by_cases c5 : 57343 < a0)
    ·rw [if_pos c5] at H
     (have c5b0 : decide (57343 < a0) = true := decide_eq_true c5); clear c5; (by_cases c6 : a0 ≤ 1114111)
     ·rw [if_pos c6] at H
      (have c6b0 : decide (a0 ≤ 1114111) = true := decide_eq_true c6); clear c6; (obtain rfl := Option.some.inj H); go_wp2; (go_ret); (exact ⟨qV, by repeat (first | exact Drawn0.refl _ | apply Drawn0.step)⟩)
     ·rw [if_neg c6] at H
      (have c6b0 : decide (a0 ≤ 1114111) = false := decide_eq_false c6); clear c6; (obtain rfl := Option.some.inj H); go_wp2; (go_ret); (exact ⟨qV, by repeat (first | exact Drawn0.refl _ | apply Drawn0.step)⟩)
    ·rw [if_neg c5] at H
     (have c5b0 : decide (57343 < a0) = false := decide_eq_false c5); clear c5; (obtain rfl := Option.some.inj H); go_wp2; (go_ret); (exact ⟨qV, by repeat (first | exact Drawn0.refl _ | apply Drawn0.step)⟩)
def arboristlaw01_few.f (a0 : ByteArray) : Option (Bool) := some (decide ((a0.size : Int) ≤ 300))
set_option maxHeartbeats 8000000 in
set_option maxRecDepth 100000 in
theorem arboristlaw01_few.calls (a0 : ByteArray) (r : Bool) (w : World) (h : arboristlaw01_few.f a0 = some r) :
  Calls Tryd.prog 9 #[.string a0] w fun e w' => e = .returned (.bool r) ∧ Drawn0 w w' := by
 (have H : (some (decide ((a0.size : Int) ≤ 300))) = some r := h); clear h; (obtain rfl := Option.some.inj H); (go_enter Tryd.func9, Tryd.ntmps9); go_wp2; (go_ret); (exact ⟨qV, by repeat (first | exact Drawn0.refl _ | apply Drawn0.step)⟩)
end Go.Proofs.YtlpkkkkgbnoiiaaDoor.H
end
section
namespace Go.Proofs.YtlpkkkkgbnoiiaaDoor.H
open Go.RowKit Go.Proofs.YtlpkkkkgbnoiiaaDoorW.PrintWords Go.Proofs.YtlpkkkkgbnoiiaaDoorW.PrintLast Go.Proofs.YtlpkkkkgbnoiiaaDoorW.PrintMore
open Go.Maps
set_option linter.unusedVariables false
set_option linter.unusedSimpArgs false
end Go.Proofs.YtlpkkkkgbnoiiaaDoor.H
end
section
namespace Go.Proofs.YtlpkkkkgbnoiiaaDoor.H
open Go.RowKit Go.Proofs.YtlpkkkkgbnoiiaaDoorW.PrintWords Go.Proofs.YtlpkkkkgbnoiiaaDoorW.PrintLast Go.Proofs.YtlpkkkkgbnoiiaaDoorW.PrintMore
attribute [local go_sem] max2_int min2_int max_two min_two max_three min_three max_four min_four
set_option linter.unusedVariables false
set_option linter.unusedSimpArgs false


theorem eqA41 (d : Nat) (w : World) (x0 y0 : Int) (x1 y1 : Int) (x2 y2 : Int) :
  (Op.equalIn (d + 2) 41 (.agg #[.int .i32 x0, .int .i64 x1, .int .i64 x2]) (.agg #[.int .i32 y0, .int .i64 y1, .int .i64 y2])).run Tryd.prog w = .ok (x0 == y0 && (x1 == y1 && (x2 == y2))) w := by
 (refine eqA_of Tryd.underlying41 (by kernel_rfl) ?_); (refine eqf_cons (by rfl) (by go_simp; rfl) (by go_simp; rfl) (by go_simp) ?_); (refine eqf_cons (by rfl) (by go_simp; rfl) (by go_simp; rfl) (by go_simp) ?_); (exact eqf_last (by rfl) (by go_simp; rfl) (by go_simp; rfl) (by go_simp))
attribute [local go_sem high] eqA41
end Go.Proofs.YtlpkkkkgbnoiiaaDoor.H
end
section
namespace Go.Proofs.YtlpkkkkgbnoiiaaDoor.H
open Go.RowKit Go.Proofs.YtlpkkkkgbnoiiaaDoorW.PrintWords Go.Proofs.YtlpkkkkgbnoiiaaDoorW.PrintLast Go.Proofs.YtlpkkkkgbnoiiaaDoorW.PrintMore
set_option linter.unusedVariables false
def Ends {α : Type} (g : Nat → Option α) (v : α) : Prop := ∃ k0, ∀ k, k0 ≤ k → g k = some v
theorem Ends.const {α : Type} (v : α) : Ends (fun _ => some v) v := ⟨0, fun _ _ => rfl⟩
theorem Ends.of_mono {α : Type} {g : Nat → Option α} {v : α} (hm : ∀ k, LeO (g k) (g (k + 1))) (h : ∃ k, g k = some v) : Ends g v := by
  obtain ⟨k, hk⟩ := h
  refine ⟨k, fun m hmk => ?_⟩
  induction m with
  | zero => obtain rfl : k = 0 := by omega
            exact hk
  | succ m ih =>
    rcases Nat.lt_or_ge k (m + 1) with q | q
    · exact hm m v (ih (by omega))
    · obtain rfl : k = m + 1 := by omega
      exact hk
theorem Ends.step {α : Type} {g h : Nat → Option α} {v : α} (e : ∀ k, g (k + 1) = h k) (hh : Ends h v) : Ends g v := by
  obtain ⟨k0, hk⟩ := hh
  refine ⟨k0 + 1, fun k hk1 => ?_⟩
  obtain ⟨m, rfl⟩ : ∃ m, k = m + 1 := ⟨k - 1, by omega⟩
  rw [e]; exact hk m (by omega)
theorem Ends.bind {α β : Type} {f : Nat → Option α} {g : Nat → α → Option β} {a : α} {v : β} (hf : Ends f a) (hg : Ends (fun k => g k a) v) : Ends (fun k => (f k).bind (g k)) v := by
  obtain ⟨k1, h1⟩ := hf
  obtain ⟨k2, h2⟩ := hg
  refine ⟨k1 + k2, fun k hk => ?_⟩
  show (f k).bind (g k) = some v
  rw [h1 k (by omega)]; exact h2 k (by omega)
theorem Ends.bind0 {α β : Type} {f : Option α} {g : Nat → α → Option β} {a : α} {v : β} (hf : f = some a) (hg : Ends (fun k => g k a) v) : Ends (fun k => f.bind (g k)) v := by
  subst hf; exact hg
theorem Ends.pos {α : Type} {c : Prop} {d : Decidable c} {f g : Nat → Option α} {v : α} (hc : c) (h : Ends f v) : Ends (fun k => @ite _ c d (f k) (g k)) v := by
  obtain ⟨k0, hk⟩ := h
  exact ⟨k0, fun k hk1 => by simp only [if_pos hc]; exact hk k hk1⟩
theorem Ends.neg {α : Type} {c : Prop} {d : Decidable c} {f g : Nat → Option α} {v : α} (hc : ¬ c) (h : Ends g v) : Ends (fun k => @ite _ c d (f k) (g k)) v := by
  obtain ⟨k0, hk⟩ := h
  exact ⟨k0, fun k hk1 => by simp only [if_neg hc]; exact hk k hk1⟩
theorem Ends.get {α : Type} {g : Nat → Option α} {v : α} (h : Ends g v) : ∃ k, g k = some v := by
  obtain ⟨k0, hk⟩ := h
  exact ⟨k0, hk k0 (Nat.le_refl _)⟩
theorem Ends.val {α : Type} {g : Nat → Option α} {v w : α} (h : Ends g v) (e : v = w) : Ends g w := e ▸ h
end Go.Proofs.YtlpkkkkgbnoiiaaDoor.H
end
section
namespace Go.Proofs.YtlpkkkkgbnoiiaaDoor.H
open Go.RowKit Go.Proofs.YtlpkkkkgbnoiiaaDoorW.PrintWords Go.Proofs.YtlpkkkkgbnoiiaaDoorW.PrintLast Go.Proofs.YtlpkkkkgbnoiiaaDoorW.PrintMore
attribute [local go_sem] max2_int min2_int max_two min_two max_three min_three max_four min_four
set_option linter.unusedVariables false
set_option linter.unusedSimpArgs false

end Go.Proofs.YtlpkkkkgbnoiiaaDoor.H
end
section
namespace Go.Proofs.YtlpkkkkgbnoiiaaDoor.H
open Go.RowKit Go.Proofs.YtlpkkkkgbnoiiaaDoorW.PrintWords Go.Proofs.YtlpkkkkgbnoiiaaDoorW.PrintLast Go.Proofs.YtlpkkkkgbnoiiaaDoorW.PrintMore
open Go.Maps
set_option linter.unusedVariables false
set_option linter.unusedSimpArgs false
theorem below_bytesWorld (w : World) (e : TypeId) (s : ByteArray) : Below w.heap.size w (Lib.bytesWorld w e s) :=
  ⟨rfl, rfl, rfl, by rw [Lib.bytesWorld_size]; omega, fun k hk => Lib.bytesWorld_at_old w e s k hk⟩
theorem drop_byte (s : ByteArray) (k : Nat) (h : k < s.size) : s.data.toList.drop k = (s.data.toList.getD k 0) :: s.data.toList.drop (k + 1) := by
  have h2 : k < s.data.toList.length := by simpa using h
  rw [List.drop_eq_getElem_cons h2]
  simp [List.getD_eq_getElem?_getD, List.getElem?_eq_getElem h2]
end Go.Proofs.YtlpkkkkgbnoiiaaDoor.H
end
section
namespace Go.Proofs.YtlpkkkkgbnoiiaaDoor.H
open Go
def digB1 (c : UInt8) : Bool := 48 ≤ c.toNat && c.toNat ≤ 57
def valL : Nat → List UInt8 → Nat
  | acc, [] => acc
  | acc, c :: l => valL (acc * 10 + (c.toNat - 48)) l
theorem valL_ge : ∀ (l : List UInt8) (acc : Nat), acc ≤ valL acc l
  | [], _ => Nat.le_refl _
  | _ :: l, _ => Nat.le_trans (by omega) (valL_ge l _)
theorem valL_app : ∀ (l m : List UInt8) (acc : Nat), valL acc (l ++ m) = valL (valL acc l) m
  | [], _, _ => rfl
  | _ :: l, m, _ => valL_app l m _
theorem valL_long (c : UInt8) (l : List UInt8) (h0 : 49 ≤ c.toNat) : 10 ^ l.length ≤ valL 0 (c :: l) := by
  have key : ∀ (l : List UInt8) (acc : Nat), acc * 10 ^ l.length ≤ valL acc l := by
    intro l
    induction l with
    | nil => intro acc; show acc * 1 ≤ acc; rw [Nat.mul_one]; exact Nat.le_refl _
    | cons d l ih =>
      intro acc
      have h1 := ih (acc * 10 + (d.toNat - 48))
      have h2 : acc * 10 * 10 ^ l.length ≤ (acc * 10 + (d.toNat - 48)) * 10 ^ l.length := Nat.mul_le_mul_right _ (by omega)
      have h3 : acc * 10 ^ (d :: l).length = acc * 10 * 10 ^ l.length := by
        rw [List.length_cons, Nat.pow_succ, Nat.mul_assoc, Nat.mul_comm 10 (10 ^ l.length)]
      rw [h3]
      exact Nat.le_trans h2 h1
  have h1 := key l (0 * 10 + (c.toNat - 48))
  have h2 : 1 * 10 ^ l.length ≤ (0 * 10 + (c.toNat - 48)) * 10 ^ l.length := Nat.mul_le_mul_right _ (by omega)
  rw [Nat.one_mul] at h2
  exact Nat.le_trans h2 h1
theorem parse_val (M : Nat) (hM : M < 18446744073709551620) : ∀ (l : List UInt8), (∀ c ∈ l, 48 ≤ c.toNat ∧ c.toNat ≤ 57) → ∀ acc, acc ≤ M → Lib.parseUintM M acc l = if M < valL acc l then Lib.NumEnd.range else Lib.NumEnd.ok (valL acc l) := by
  intro l
  induction l with
  | nil => intro _ acc ha; rw [if_neg (show ¬ M < valL acc [] from Nat.not_lt.2 ha)]; rfl
  | cons c l ih =>
    intro h acc ha
    have hc := h c List.mem_cons_self
    have hge := valL_ge l (acc * 10 + (c.toNat - 48))
    have ih2 := ih (fun x hx => h x (List.mem_cons_of_mem _ hx)) (acc * 10 + (c.toNat - 48))
    have e : valL acc (c :: l) = valL (acc * 10 + (c.toNat - 48)) l := rfl
    rw [Lib.parseUintM, if_pos hc, e]
    generalize valL (acc * 10 + (c.toNat - 48)) l = V at hge ih2 ⊢
    by_cases h1 : 1844674407370955162 ≤ acc
    · rw [if_pos h1, if_pos (by omega)]
    rw [if_neg h1]
    by_cases h2 : M < acc * 10 + (c.toNat - 48)
    · rw [if_pos h2, if_pos (by omega)]
    rw [if_neg h2, ih2 (by omega)]
theorem dec_char (d : Nat) (h : d < 10) : (UInt8.ofNat (48 + d)).toNat = 48 + d := by
  rw [UInt8.toNat_ofNat']
  omega
theorem dec_digs : ∀ (u : Nat), ∀ c ∈ Lib.decDigits u, 48 ≤ c.toNat ∧ c.toNat ≤ 57 := by
  intro u
  induction u using Nat.strongRecOn with
  | ind u ih =>
    intro c hc
    rw [Lib.decDigits] at hc
    split at hc
    · rename_i h
      rw [List.mem_singleton.1 hc, dec_char u h]; omega
    · rename_i h
      rcases List.mem_append.1 hc with q | q
      · exact ih (u / 10) (by omega) c q
      · rw [List.mem_singleton.1 q, dec_char (u % 10) (by omega)]; omega
theorem dec_val : ∀ (u : Nat), valL 0 (Lib.decDigits u) = u := by
  intro u
  induction u using Nat.strongRecOn with
  | ind u ih =>
    rw [Lib.decDigits]
    split
    · rename_i h
      show 0 * 10 + ((UInt8.ofNat (48 + u)).toNat - 48) = u
      rw [dec_char u h]; omega
    · rename_i h
      rw [valL_app, ih (u / 10) (by omega)]
      show u / 10 * 10 + ((UInt8.ofNat (48 + u % 10)).toNat - 48) = u
      rw [dec_char (u % 10) (by omega)]; omega
theorem dec_ne (u : Nat) : Lib.decDigits u ≠ [] := by
  rw [Lib.decDigits]
  split <;> simp
theorem dec_head : ∀ (u : Nat), 10 ≤ u → ∃ c r, Lib.decDigits u = c :: r ∧ 49 ≤ c.toNat := by
  intro u
  induction u using Nat.strongRecOn with
  | ind u ih =>
    intro hu
    rw [Lib.decDigits, dif_neg (by omega)]
    by_cases h : u / 10 < 10
    · rw [Lib.decDigits, dif_pos h]
      exact ⟨_, _, rfl, by rw [dec_char (u / 10) h]; omega⟩
    · obtain ⟨c, r, h1, h2⟩ := ih (u / 10) (by omega) (by omega)
      exact ⟨c, r ++ [UInt8.ofNat (48 + u % 10)], by rw [h1]; rfl, h2⟩
def readV (l : List UInt8) (most : Int) : Int × Int :=
  if l = [] then (0, 3)
  else if 1 < l.length ∧ l.headD 0 = 48 then (0, 3)
  else if l.all digB1 = true then (if 9223372036854775807 < valL 0 l then (0, 2) else if (valL 0 l : Int) > most then (0, 2) else ((valL 0 l : Int), 0))
  else (0, 3)
theorem all_digs {l : List UInt8} (h : l.all digB1 = true) : ∀ c ∈ l, 48 ≤ c.toNat ∧ c.toNat ≤ 57 := fun c hc => by
  have := List.all_eq_true.1 h c hc
  unfold digB1 at this
  simpa using this
theorem digs_all {l : List UInt8} (h : ∀ c ∈ l, 48 ≤ c.toNat ∧ c.toNat ≤ 57) : l.all digB1 = true := by
  rw [List.all_eq_true]
  intro c hc
  unfold digB1
  simpa using h c hc
theorem read_dec (u : Nat) (hu : u ≤ 9223372036854775807) : readV (Lib.decDigits u) (u : Int) = ((u : Int), 0) := by
  unfold readV
  rw [if_neg (dec_ne u), dec_val, digs_all (dec_digs u), if_neg, if_pos rfl, if_neg (by omega), if_neg (by omega)]
  rintro ⟨h1, h2⟩
  rcases Nat.lt_or_ge u 10 with q | q
  · rw [Lib.decDigits, dif_pos q] at h1; simp at h1
  · obtain ⟨c, r, h3, h4⟩ := dec_head u q
    rw [h3] at h2
    simp only [List.headD_cons] at h2
    rw [h2] at h4
    exact absurd h4 (by decide)
end Go.Proofs.YtlpkkkkgbnoiiaaDoor.H
end
section
namespace Go.Proofs.YtlpkkkkgbnoiiaaDoor.H
open Go.RowKit Go.Proofs.YtlpkkkkgbnoiiaaDoorW.PrintWords Go.Proofs.YtlpkkkkgbnoiiaaDoorW.PrintLast Go.Proofs.YtlpkkkkgbnoiiaaDoorW.PrintMore
attribute [local go_sem] max2_int min2_int max_two min_two max_three min_three max_four min_four
set_option linter.unusedVariables false
set_option linter.unusedSimpArgs false
mutual
def arboristref01_Read.j0 : Nat → ByteArray → Int → Bool → Option (Int × Int)
 | 0, _, _, _ => none
 | k + 1, x0, x1, x20 => if x20 = true then (some (0, 3)) else (arboristref01_Read.l0 k x0 x1 0)
def arboristref01_Read.l0 : Nat → ByteArray → Int → Int → Option (Int × Int)
 | 0, _, _, _ => none
 | k + 1, x0, x1, x6 => if x6 < (x0.size : Int) then (if 0 ≤ x6 then (if (bt x0 x6) < 48 then (some (0, 3)) else (if (bt x0 x6) > 57 then (some (0, 3)) else (arboristref01_Read.l0 k x0 x1 (wrap64 (x6 + 1))))) else (none)) else (if x1 < 0 then (arboristref01_Read.j2 k x0 x1 true) else (arboristref01_Read.j2 k x0 x1 (decide ((x0.size : Int) > 19))))
def arboristref01_Read.j2 : Nat → ByteArray → Int → Bool → Option (Int × Int)
 | 0, _, _, _ => none
 | k + 1, x0, x1, x43 => if x43 = true then (some (0, 2)) else (arboristref01_Read.l1 k x0 x1 0 0)
def arboristref01_Read.l1 : Nat → ByteArray → Int → Int → Int → Option (Int × Int)
 | 0, _, _, _, _ => none
 | k + 1, x0, x1, x7, x8 => if x8 < (x0.size : Int) then (if 0 ≤ x8 then (arboristref01_Read.l1 k x0 x1 (IntKind.u64.wrap ((IntKind.u64.wrap (10 * x7)) + (((bt x0 x8) - 48) % 256))) (wrap64 (x8 + 1))) else (none)) else (if x7 > (IntKind.u64.wrap (x1)) then (some (0, 2)) else (some (wrap64 (x7), 0)))
end
def arboristref01_Read.f (k : Nat) (a0 : ByteArray) (a1 : Int) : Option (Int × Int) := if a0.toList = ([] : List UInt8) then (arboristref01_Read.j0 k a0 a1 true) else (if 0 < (a0.size : Int) then (if (bt a0 0) = 48 then (arboristref01_Read.j0 k a0 a1 (decide ((a0.size : Int) > 1))) else (arboristref01_Read.j0 k a0 a1 false)) else (none))
set_option maxHeartbeats 8000000 in
set_option maxRecDepth 100000 in
theorem arboristref01_Read.calls (k : Nat) (a0 : ByteArray) (a1 : Int) (r1 : Int) (r2 : Int) (w : World) (h : arboristref01_Read.f k a0 a1 = some (r1, r2)) :
  Calls Tryd.prog 25 #[.string a0, .int .i64 a1] w fun e w' => e = .returned (.tuple #[.int .i64 r1, .int .i64 r2]) ∧ Drawn0 w w' := by
 (have H : (if a0.toList = ([] : List UInt8) then (arboristref01_Read.j0 k a0 a1 true) else (if 0 < (a0.size : Int) then (if (bt a0 0) = 48 then (arboristref01_Read.j0 k a0 a1 (decide ((a0.size : Int) > 1))) else (arboristref01_Read.j0 k a0 a1 false)) else (none))) = some (r1, r2) := h); clear h; (have HC3 := qM H); clear H; (go_enter Tryd.func25, Tryd.ntmps25); (go_upto_region 1 with (fail)); (go_cut [20] (fun v20 wc => ∃ (kq : Nat) (x20_2 : Bool), v20 = .bool x20_2 ∧ Aside0 (arboristref01_Read.j0 kq a0 a1 x20_2 = some (r1, r2)) ∧ Aside0 (kq ≤ k) ∧ Drawn0 w wc))
 case first =>
  (have H := HC3.out); clear HC3; (by_cases c4 : a0.toList = ([] : List UInt8))
  ·rw [if_pos c4] at H
   (have c4b0 : (a0.toList == ([] : List UInt8)) = true := beq_iff_eq.mpr c4); (have c4b1 : (a0.toList != ([] : List UInt8)) = false := bne_eq_false_iff_eq.mpr c4); clear c4; ((first | rw [c4b0] | (simp only [i64_w, i32_w]; rw [c4b0]) | skip)); (have H' := qM H); clear H; go_wp2; go_meet
   case rel => exact ⟨_, (true), qV, H', ⟨by first | omega | exact Nat.le_refl _⟩, by repeat (first | exact Drawn0.refl _ | apply Drawn0.step)⟩
  ·rw [if_neg c4] at H
   (have c4b0 : (a0.toList == ([] : List UInt8)) = false := beq_eq_false_iff_ne.mpr c4); (have c4b1 : (a0.toList != ([] : List UInt8)) = true := bne_iff_ne.mpr c4); ((first | rw [c4b0] | (simp only [i64_w, i32_w]; rw [c4b0]) | skip)); (by_cases c5 : 0 < (a0.size : Int))
   ·rw [if_pos c5] at H
    (have c5b0 : decide (0 < (a0.size : Int)) = true := decide_eq_true c5); (have c5b1 : decide (0 < a0.size) = true := decide_eq_true (by omega)); clear c5; (by_cases c7 : (bt a0 0) = 48)
    ·rw [if_pos c7] at H
     (have c7b0 : ((bt a0 0) == 48) = true := beq_iff_eq.mpr c7); (have c7b1 : ((bt a0 0) != 48) = false := bne_eq_false_iff_eq.mpr c7); clear c7; (have H' := qM H); clear H; (have p6 : 0 ≤ (0 : Int) := (by omega)); (have q6 : 0 < a0.size := (by have : (0 : Int) < (a0.size : Int) := qo qX; omega)); (have hx6 : ∀ h : 0 < a0.size, ((a0[0]'h).toNat : Int) = bt a0 0 := bt_at a0 0); clear p6; (have qi6 : (0 < (a0.size : Int)) = True := eq_true (qo qX)); (replace q6 := eq_true q6); go_wp2; go_meet
     case rel => exact ⟨_, (decide ((a0.size : Int) > 1)), qV, H', ⟨by first | omega | exact Nat.le_refl _⟩, by repeat (first | exact Drawn0.refl _ | apply Drawn0.step)⟩
    ·rw [if_neg c7] at H
     (have c7b0 : ((bt a0 0) == 48) = false := beq_eq_false_iff_ne.mpr c7); (have c7b1 : ((bt a0 0) != 48) = true := bne_iff_ne.mpr c7); (have H' := qM H); clear H; (have p6 : 0 ≤ (0 : Int) := (by omega)); (have q6 : 0 < a0.size := (by have : (0 : Int) < (a0.size : Int) := qo qX; omega)); (have hx6 : ∀ h : 0 < a0.size, ((a0[0]'h).toNat : Int) = bt a0 0 := bt_at a0 0); clear p6; (have qi6 : (0 < (a0.size : Int)) = True := eq_true (qo qX)); (replace q6 := eq_true q6); go_wp2; go_meet
     case rel => exact ⟨_, (false), qV, H', ⟨by first | omega | exact Nat.le_refl _⟩, by repeat (first | exact Drawn0.refl _ | apply Drawn0.step)⟩
   ·rw [if_neg c5] at H
    exact absurd H (by simp)
 case rest =>
  clear HC3; (try clear c2); (try clear p2); (try clear c4); (try clear c4b0); (try clear c4b1); (try clear c5); (try clear c5b0); (try clear c5b1); (try clear p6); (try clear q6); (try clear hx6); (try clear qi6); (try clear c7); (try clear c7b0); (try clear c7b1); (try clear p6); (try clear q6); (obtain ⟨kq, x20_2, rfl, HA, HJ2, ⟨mc2, rfl⟩⟩ := hcut)
  cases kq with
  | zero => exact absurd HA.out (by simp [arboristref01_Read.j0])
  | succ kj2 =>
   (have H := HA.out); clear HA; (simp only [arboristref01_Read.j0] at H); (by_cases c8 : x20_2 = true)
   ·subst c8
    (have H1 : (some (0, 3)) = some (r1, r2) := by rw [if_pos rfl] at H; exact H); clear H; (have H := H1); clear H1; (simp only [Option.some.injEq, Prod.mk.injEq] at H); (obtain ⟨rfl, rfl⟩ := H); go_wp2; (go_ret2); (exact ⟨qV, by repeat (first | exact Drawn0.refl _ | apply Drawn0.step)⟩)
   ·replace c8 := Bool.eq_false_iff.mpr c8
    subst c8; (have H1 : (arboristref01_Read.l0 kj2 a0 a1 0) = some (r1, r2) := by rw [if_neg (show ¬ (false = true) by decide)] at H; exact H); clear H; (have H := H1); clear H1; (have H' := qM H); clear H; go_wp2; (go_loopg [6] kj2 (fun kq v6 w' => ∃ (x6_2 : Int), v6 = .int .i64 x6_2 ∧ Aside0 (arboristref01_Read.l0 kq a0 a1 x6_2 = some (r1, r2)) ∧ Aside0 (kq ≤ kj2) ∧ Drawn0 w w'))
    case atStart => exact ⟨(0), qV, H', ⟨Nat.le_refl _⟩, by repeat (first | exact Drawn0.refl _ | apply Drawn0.step)⟩
    case round =>
     (clear H'); (try clear c2); (try clear p2); (try clear c4); (try clear c4b0); (try clear c4b1); (try clear c5); (try clear c5b0); (try clear c5b1); (try clear p6); (try clear q6); (try clear hx6); (try clear qi6); (try clear c7); (try clear c7b0); (try clear c7b1); (try clear c8); (try clear p2); (try clear p6); (try clear q6); (obtain ⟨x6_2, rfl, HA, HK2, ⟨m2, rfl⟩⟩ := hrel)
     cases gk with
     | zero => exact absurd HA.out (by simp [arboristref01_Read.l0])
     | succ k2 =>
      (have H := HA.out); clear HA; (simp only [arboristref01_Read.l0] at H); (by_cases c9 : x6_2 < (a0.size : Int))
      ·rw [if_pos c9] at H
       (have c9b0 : decide (x6_2 < (a0.size : Int)) = true := decide_eq_true c9); clear c9; (by_cases c10 : 0 ≤ x6_2)
       ·rw [if_pos c10] at H
        (have c10b0 : decide (0 ≤ x6_2) = true := decide_eq_true c10); clear c10; (by_cases c12 : (bt a0 x6_2) < 48)
        ·rw [if_pos c12] at H
         (have c12b0 : decide ((bt a0 x6_2) < 48) = true := decide_eq_true c12); clear c12; (simp only [Option.some.injEq, Prod.mk.injEq] at H); (obtain ⟨rfl, rfl⟩ := H); (have p11 : 0 ≤ (x6_2 : Int) := qo qX); (have q11 : x6_2 < (a0.size : Int) := qo qX); (have hx11 := bt_at a0 x6_2); (replace p11 := eq_true p11); (replace q11 := eq_true q11); go_wp2; (go_ret2); (exact ⟨qV, by repeat (first | exact Drawn0.refl _ | apply Drawn0.step)⟩)
        ·rw [if_neg c12] at H
         (have c12b0 : decide ((bt a0 x6_2) < 48) = false := decide_eq_false c12); clear c12; (by_cases c14 : (bt a0 x6_2) > 57)
         ·rw [if_pos c14] at H
          (have c14b0 : decide (57 < (bt a0 x6_2)) = true := decide_eq_true c14); clear c14; (simp only [Option.some.injEq, Prod.mk.injEq] at H); (obtain ⟨rfl, rfl⟩ := H); (have p11 : 0 ≤ (x6_2 : Int) := qo qX); (have q11 : x6_2 < (a0.size : Int) := qo qX); (have hx11 := bt_at a0 x6_2); (replace p11 := eq_true p11); (replace q11 := eq_true q11); (have p13 : 0 ≤ (x6_2 : Int) := qo qX); (have q13 : x6_2 < (a0.size : Int) := qo qX); (have hx13 := bt_at a0 x6_2); (replace p13 := eq_true p13); (replace q13 := eq_true q13); go_wp2; (go_ret2); (exact ⟨qV, by repeat (first | exact Drawn0.refl _ | apply Drawn0.step)⟩)
         ·rw [if_neg c14] at H
          (have c14b0 : decide (57 < (bt a0 x6_2)) = false := decide_eq_false c14); clear c14; (have H' := qM H); clear H; (have p11 : 0 ≤ (x6_2 : Int) := qo qX); (have q11 : x6_2 < (a0.size : Int) := qo qX); (have hx11 := bt_at a0 x6_2); (replace p11 := eq_true p11); (replace q11 := eq_true q11); (have p13 : 0 ≤ (x6_2 : Int) := qo qX); (have q13 : x6_2 < (a0.size : Int) := qo qX); (have hx13 := bt_at a0 x6_2); (replace p13 := eq_true p13); (replace q13 := eq_true q13); go_wp2; (go_roundg k2)
          case measure => have := HJ2.out; have := HK2.out; omega
          case rel => exact ⟨(wrap64 (x6_2 + 1)), qV, H', ⟨by have := HJ2.out; have := HK2.out; omega⟩, by repeat (first | exact Drawn0.refl _ | apply Drawn0.step)⟩
       ·rw [if_neg c10] at H
        exact absurd H (by simp)
      ·rw [if_neg c9] at H
       (have c9b0 : decide (x6_2 < (a0.size : Int)) = false := decide_eq_false c9); clear c9; (have HC15 := qM H); clear H; (go_upto_region 8 with (fail)); (go_cut [43] (fun v43 wc => ∃ (kq : Nat) (x43_14 : Bool), v43 = .bool x43_14 ∧ Aside0 (arboristref01_Read.j2 kq a0 a1 x43_14 = some (r1, r2)) ∧ Aside0 (kq ≤ k2) ∧ Drawn0 w wc))
       case first =>
        (have H := HC15.out); clear HC15; (by_cases c16 : a1 < 0)
        ·rw [if_pos c16] at H
         (have c16b0 : decide (a1 < 0) = true := decide_eq_true c16); clear c16; ((first | rw [c16b0] | (simp only [i64_w, i32_w]; rw [c16b0]) | skip)); (have H' := qM H); clear H; go_wp2; go_meet
         case rel => exact ⟨_, (true), qV, H', ⟨by have := HJ2.out; have := HK2.out; first | omega | exact Nat.le_refl _⟩, by repeat (first | exact Drawn0.refl _ | apply Drawn0.step)⟩
        ·rw [if_neg c16] at H
         (have c16b0 : decide (a1 < 0) = false := decide_eq_false c16); clear c16; ((first | rw [c16b0] | (simp only [i64_w, i32_w]; rw [c16b0]) | skip)); (have H' := qM H); clear H; go_wp2; go_meet
         case rel => exact ⟨_, (decide ((a0.size : Int) > 19)), qV, H', ⟨by have := HJ2.out; have := HK2.out; first | omega | exact Nat.le_refl _⟩, by repeat (first | exact Drawn0.refl _ | apply Drawn0.step)⟩
       case rest =>
        clear HC15; (try clear c1); (try clear p1); (try clear q1); (try clear hx1); (try clear c2); (try clear p2); (try clear c4); (try clear c4b0); (try clear c4b1); (try clear c5); (try clear c5b0); (try clear c5b1); (try clear p6); (try clear q6); (try clear hx6); (try clear qi6); (try clear c7); (try clear c7b0); (try clear c7b1); (try clear c8); (try clear c9); (try clear c9b0); (try clear c10); (try clear c10b0); (try clear p11); (try clear q11); (try clear hx11); (try clear c12); (try clear c12b0); (try clear p13); (try clear q13); (try clear hx13); (try clear c14); (try clear c14b0); (try clear c16); (try clear c16b0); (try clear p11); (try clear p13); (try clear p2); (try clear p6); (try clear q11); (try clear q13); (try clear q6); (obtain ⟨kq, x43_14, rfl, HA, HJ14, ⟨mc14, rfl⟩⟩ := hcut)
        cases kq with
        | zero => exact absurd HA.out (by simp [arboristref01_Read.j2])
        | succ kj14 =>
         (have H := HA.out); clear HA; (simp only [arboristref01_Read.j2] at H); (by_cases c17 : x43_14 = true)
         ·subst c17
          (have H1 : (some (0, 2)) = some (r1, r2) := by rw [if_pos rfl] at H; exact H); clear H; (have H := H1); clear H1; (simp only [Option.some.injEq, Prod.mk.injEq] at H); (obtain ⟨rfl, rfl⟩ := H); go_wp2; (go_ret2); (exact ⟨qV, by repeat (first | exact Drawn0.refl _ | apply Drawn0.step)⟩)
         ·replace c17 := Bool.eq_false_iff.mpr c17
          subst c17; (have H1 : (arboristref01_Read.l1 kj14 a0 a1 0 0) = some (r1, r2) := by rw [if_neg (show ¬ (false = true) by decide)] at H; exact H); clear H; (have H := H1); clear H1; (have H' := qM H); clear H; go_wp2; (go_loopg [7, 8] kj14 (fun kq v7 v8 w' => ∃ (x7_4 : Int) (x8_4 : Int), v7 = .int .u64 x7_4 ∧ v8 = .int .i64 x8_4 ∧ Aside0 (arboristref01_Read.l1 kq a0 a1 x7_4 x8_4 = some (r1, r2)) ∧ Aside0 (kq ≤ kj14) ∧ Drawn0 w w'))
          case atStart => exact ⟨(0), (0), qV, qV, H', ⟨Nat.le_refl _⟩, by repeat (first | exact Drawn0.refl _ | apply Drawn0.step)⟩
          case round =>
           (clear H'); (try clear c1); (try clear p1); (try clear q1); (try clear hx1); (try clear c2); (try clear p2); (try clear c4); (try clear c4b0); (try clear c4b1); (try clear c5); (try clear c5b0); (try clear c5b1); (try clear p6); (try clear q6); (try clear hx6); (try clear qi6); (try clear c7); (try clear c7b0); (try clear c7b1); (try clear c8); (try clear c9); (try clear c9b0); (try clear c10); (try clear c10b0); (try clear p11); (try clear q11); (try clear hx11); (try clear c12); (try clear c12b0); (try clear p13); (try clear q13); (try clear hx13); (try clear c14); (try clear c14b0); (try clear c16); (try clear c16b0); (try clear c17); (try clear p1); (try clear p11); (try clear p13); (try clear p2); (try clear p6); (try clear q1); (try clear q11); (try clear q13); (try clear q6); (obtain ⟨x7_4, x8_4, rfl, rfl, HA, HK4, ⟨m4, rfl⟩⟩ := hrel)
           cases gk with
           | zero => exact absurd HA.out (by simp [arboristref01_Read.l1])
           | succ k4 =>
            (have H := HA.out); clear HA; (simp only [arboristref01_Read.l1] at H); (by_cases c18 : x8_4 < (a0.size : Int))
            ·rw [if_pos c18] at H
             (have c18b0 : decide (x8_4 < (a0.size : Int)) = true := decide_eq_true c18); clear c18; (by_cases c19 : 0 ≤ x8_4)
             ·rw [if_pos c19] at H
              (have c19b0 : decide (0 ≤ x8_4) = true := decide_eq_true c19); clear c19; (have H' := qM H); clear H; (have p20 : 0 ≤ (x8_4 : Int) := qo qX); (have q20 : x8_4 < (a0.size : Int) := qo qX); (have hx20 := bt_at a0 x8_4); (replace p20 := eq_true p20); (replace q20 := eq_true q20); go_wp2; (go_roundg k4)
              case measure => have := HJ2.out; have := HK2.out; have := HJ14.out; have := HK4.out; omega
              case rel => exact ⟨(IntKind.u64.wrap ((IntKind.u64.wrap (10 * x7_4)) + (((bt a0 x8_4) - 48) % 256))), (wrap64 (x8_4 + 1)), qV, qV, H', ⟨by have := HJ2.out; have := HK2.out; have := HJ14.out; have := HK4.out; omega⟩, by repeat (first | exact Drawn0.refl _ | apply Drawn0.step)⟩
             ·rw [if_neg c19] at H
              exact absurd H (by simp)
            ·rw [if_neg c18] at H
             (have c18b0 : decide (x8_4 < (a0.size : Int)) = false := decide_eq_false c18); clear c18; (by_cases c21 : x7_4 > (IntKind.u64.wrap (a1)))
             ·rw [if_pos c21] at H
              (have c21b0 : decide ((IntKind.u64.wrap (a1)) < x7_4) = true := decide_eq_true c21); clear c21; (simp only [Option.some.injEq, Prod.mk.injEq] at H); (obtain ⟨rfl, rfl⟩ := H); go_wp2; (go_ret2); (exact ⟨qV, by repeat (first | exact Drawn0.refl _ | apply Drawn0.step)⟩)
             ·rw [if_neg c21] at H
              (have c21b0 : decide ((IntKind.u64.wrap (a1)) < x7_4) = false := decide_eq_false c21); clear c21; (simp only [Option.some.injEq, Prod.mk.injEq] at H); (obtain ⟨rfl, rfl⟩ := H); go_wp2; (go_ret2); (exact ⟨qV, by repeat (first | exact Drawn0.refl _ | apply Drawn0.step)⟩)
mutual
def arboristref01_Show.j0 : Nat → Int → ByteArray → Option (ByteArray)
 | 0, _, _ => none
 | k + 1, x3, x4 => arboristref01_Show.l0 k x3 x4 (⟨#[]⟩ : ByteArray)
def arboristref01_Show.l0 : Nat → Int → ByteArray → ByteArray → Option (ByteArray)
 | 0, _, _, _ => none
 | k + 1, x3, x4, x5 => if x3 > 9 then ((some (([(IntKind.u64.wrap (48 + (Int.tmod x3 10))) % 256] : List Int) : List Int)).bind fun y247 => (if (strOfNums y247).size + x5.size ≤ 9223372036854775807 then (arboristref01_Show.l0 k (IntKind.u64.wrap (Int.tdiv x3 10)) x4 ((strOfNums y247) ++ x5)) else (none))) else ((some (([(IntKind.u64.wrap (48 + x3)) % 256] : List Int) : List Int)).bind fun y250 => (if x4.size + (strOfNums y250).size ≤ 9223372036854775807 then (if (x4 ++ (strOfNums y250)).size + x5.size ≤ 9223372036854775807 then (some ((x4 ++ (strOfNums y250)) ++ x5)) else (none)) else (none)))
end
def arboristref01_Show.f (k : Nat) (a0 : Int) : Option (ByteArray) := if a0 < 0 then (arboristref01_Show.j0 k (IntKind.u64.wrap (-(IntKind.u64.wrap (a0)))) (⟨#[45]⟩ : ByteArray)) else (arboristref01_Show.j0 k (IntKind.u64.wrap (a0)) (⟨#[]⟩ : ByteArray))
set_option maxHeartbeats 8000000 in
set_option maxRecDepth 100000 in
theorem arboristref01_Show.calls (k : Nat) (a0 : Int) (r : ByteArray) (w : World) (h : arboristref01_Show.f k a0 = some r) :
  Calls Tryd.prog 27 #[.int .i64 a0] w fun e w' => e = .returned (.string r) ∧ Below w.heap.size w w' := by
 (have HB := qM (Below.refl w.heap.size w)); (have H : (if a0 < 0 then (arboristref01_Show.j0 k (IntKind.u64.wrap (-(IntKind.u64.wrap (a0)))) (⟨#[45]⟩ : ByteArray)) else (arboristref01_Show.j0 k (IntKind.u64.wrap (a0)) (⟨#[]⟩ : ByteArray))) = some r := h); clear h; (have HC2 := qM H); clear H; (go_enter Tryd.func27, Tryd.ntmps27); (go_upto_if 9 with (fail)); (go_cut [3, 4] (fun v3 v4 wc => ∃ (kq : Nat) (x3_1 : Int) (x4_1 : ByteArray), v3 = .int .u64 x3_1 ∧ v4 = .string x4_1 ∧ Aside0 (arboristref01_Show.j0 kq x3_1 x4_1 = some r) ∧ Aside0 (kq ≤ k) ∧ Aside0 (Below w.heap.size w wc)))
 case first =>
  (have H := HC2.out); clear HC2; (by_cases c3 : a0 < 0)
  ·rw [if_pos c3] at H
   (have c3b0 : decide (a0 < 0) = true := decide_eq_true c3); clear c3; ((first | rw [c3b0] | (simp only [i64_w, i32_w]; rw [c3b0]) | skip)); (have H' := qM H); clear H; go_wp2; go_meet
   case rel => exact ⟨_, (IntKind.u64.wrap (-(IntKind.u64.wrap (a0)))), ((⟨#[45]⟩ : ByteArray)), qV, qV, H', ⟨by first | omega | exact Nat.le_refl _⟩, ⟨qF⟩⟩
  ·rw [if_neg c3] at H
   (have c3b0 : decide (a0 < 0) = false := decide_eq_false c3); clear c3; ((first | rw [c3b0] | (simp only [i64_w, i32_w]; rw [c3b0]) | skip)); (have H' := qM H); clear H; go_wp2; go_meet
   case rel => exact ⟨_, (IntKind.u64.wrap (a0)), ((⟨#[]⟩ : ByteArray)), qV, qV, H', ⟨by first | omega | exact Nat.le_refl _⟩, ⟨qF⟩⟩
 case rest =>
  clear HC2; (try clear c2); (try clear p2); (try clear c3); (try clear c3b0); (obtain ⟨kq, x3_1, x4_1, rfl, rfl, HA, HJ1, HB⟩ := hcut)
  cases kq with
  | zero => exact absurd HA.out (by simp [arboristref01_Show.j0])
  | succ kj1 =>
   (have H := HA.out); clear HA; (simp only [arboristref01_Show.j0] at H); (have H' := qM H); clear H; go_wp2; (go_loopg [3, 5] kj1 (fun kq v3 v5 w' => ∃ (x3_2 : Int) (x5_2 : ByteArray), v3 = .int .u64 x3_2 ∧ v5 = .string x5_2 ∧ Aside0 (arboristref01_Show.l0 kq x3_2 x4_1 x5_2 = some r) ∧ Aside0 (kq ≤ kj1) ∧ Aside0 (Below w.heap.size w w')))
   case atStart => exact ⟨(x3_1), ((⟨#[]⟩ : ByteArray)), qV, qV, H', ⟨Nat.le_refl _⟩, ⟨qF⟩⟩
   case round =>
    (clear H'); (try clear c2); (try clear p2); (try clear c3); (try clear c3b0); (try clear p2); (obtain ⟨x3_2, x5_2, rfl, rfl, HA, HK2, HB⟩ := hrel)
    cases gk with
    | zero => exact absurd HA.out (by simp [arboristref01_Show.l0])
    | succ k2 =>
     (have H := HA.out); clear HA; (simp only [arboristref01_Show.l0] at H); (by_cases c4 : x3_2 > 9)
     ·rw [if_pos c4] at H
      (have c4b0 : decide (9 < x3_2) = true := decide_eq_true c4); clear c4; (obtain ⟨y247, hy247⟩ : ∃ y_ : List Int, y_ = (([(IntKind.u64.wrap (48 + (Int.tmod x3_2 10))) % 256] : List Int)) := ⟨_, rfl⟩); (replace H : (if (strOfNums y247).size + x5_2.size ≤ 9223372036854775807 then (arboristref01_Show.l0 k2 (IntKind.u64.wrap (Int.tdiv x3_2 10)) x4_1 ((strOfNums y247) ++ x5_2)) else (none)) = some r := by first | (rw [hy247]; with_reducible exact H) | (have H2_ := (Option.bind_some _ _).symm.trans H; rw [hy247]; with_reducible exact H2_) | (have H2_ := (Option.bind_some _ _).symm.trans H; with_reducible exact H2_) | with_reducible exact H | (rw [hy247]; exact H) | exact H); (have Ny247 := qM hy247); clear hy247; (by_cases c5 : (strOfNums y247).size + x5_2.size ≤ 9223372036854775807)
      ·rw [if_pos c5] at H
       (have c5b0 := eq_true c5); (have c5b1 : decide ((strOfNums y247).size + x5_2.size ≤ 9223372036854775807) = true := decide_eq_true c5); (try have c5b2 : (9223372036854775807 < (strOfNums y247).size + x5_2.size) = False := eq_false (Nat.not_lt.2 c5)); (have H' := qM H); clear H
       go_wp2_with (first | ((with_reducible refine gate_dst (N := 18) rfl ?_); refine Kd.R_lit (Kd.int .u8) _ 5 ?hg (N := 18) ?hd (xs := ([(IntKind.u64.wrap (48 + (Int.tmod x3_2 10))) % 256] : List Int)) (inner := [.int .u8 ((IntKind.u64.wrap (48 + (Int.tmod x3_2 10))) % 256)]) (ok := fun _ => True) (okp := fun _ => True) ?hr ?hp (fun _ hk => hk) trivial (Below.refl _ _) (Nat.le_refl _) (by simp) ?_; (case hd => rfl); (case hg => rfl); (case hr => first | (go_simp; done) | (go_simp; rfl)); (case hp => exact (Reps.one (show Kd.M (Kd.int .u8) _ _ _ ((IntKind.u64.wrap (48 + (Int.tmod x3_2 10))) % 256) [.int .u8 ((IntKind.u64.wrap (48 + (Int.tmod x3_2 10))) % 256)] from rfl) (Reps.none _ _))); intro v248 w6 ho7 hb hg_ hnew_; clear hg_ hnew_; (first | rw [← Ny247.out] at ho7 | (simp only [Int.reduceToNat] at ho7; rw [← Ny247.out] at ho7)); have n0_ := qM (Kd.R_lower ho7 (qZ qF)); have n1_ := qM (qP qF hb); clear HB; have HO249 := n0_; have HB := n1_; clear n0_ n1_; clear hb ho7; have hcv8 := own_string (P := Tryd.prog) Tryd.underlying52 Tryd.underlying5 Tryd.underlying9 (Kd.own_of_R HO249.out)))
       go_roundg k2
       case measure => have := HJ1.out; have := HK2.out; omega
       case rel => exact ⟨(IntKind.u64.wrap (Int.tdiv x3_2 10)), ((strOfNums y247) ++ x5_2), qV, qV, H', ⟨by have := HJ1.out; have := HK2.out; omega⟩, ⟨qF⟩⟩
      ·rw [if_neg c5] at H
       exact absurd H (by simp)
     ·rw [if_neg c4] at H
      (have c4b0 : decide (9 < x3_2) = false := decide_eq_false c4); clear c4; (obtain ⟨y250, hy250⟩ : ∃ y_ : List Int, y_ = (([(IntKind.u64.wrap (48 + x3_2)) % 256] : List Int)) := ⟨_, rfl⟩); (replace H : (if x4_1.size + (strOfNums y250).size ≤ 9223372036854775807 then (if (x4_1 ++ (strOfNums y250)).size + x5_2.size ≤ 9223372036854775807 then (some ((x4_1 ++ (strOfNums y250)) ++ x5_2)) else (none)) else (none)) = some r := by first | (rw [hy250]; with_reducible exact H) | (have H2_ := (Option.bind_some _ _).symm.trans H; rw [hy250]; with_reducible exact H2_) | (have H2_ := (Option.bind_some _ _).symm.trans H; with_reducible exact H2_) | with_reducible exact H | (rw [hy250]; exact H) | exact H); (have Ny250 := qM hy250); clear hy250; (by_cases c9 : x4_1.size + (strOfNums y250).size ≤ 9223372036854775807)
      ·rw [if_pos c9] at H
       (have c9b0 := eq_true c9); (have c9b1 : decide (x4_1.size + (strOfNums y250).size ≤ 9223372036854775807) = true := decide_eq_true c9); (try have c9b2 : (9223372036854775807 < x4_1.size + (strOfNums y250).size) = False := eq_false (Nat.not_lt.2 c9)); (by_cases c10 : (x4_1 ++ (strOfNums y250)).size + x5_2.size ≤ 9223372036854775807)
       ·rw [if_pos c10] at H
        (have c10b0 := eq_true c10); (have c10b1 : decide ((x4_1 ++ (strOfNums y250)).size + x5_2.size ≤ 9223372036854775807) = true := decide_eq_true c10); (try have c10b2 : (9223372036854775807 < (x4_1 ++ (strOfNums y250)).size + x5_2.size) = False := eq_false (Nat.not_lt.2 c10)); (try have c10b3 : (9223372036854775807 < x4_1.size + (strOfNums y250).size + x5_2.size) = False := eq_false (Nat.not_lt.2 (by have h_ := c10; simp only [ByteArray.size_append] at h_; exact h_))); (obtain rfl := Option.some.inj H)
        go_wp2_with (first | ((with_reducible refine gate_dst (N := 28) rfl ?_); refine Kd.R_lit (Kd.int .u8) _ 5 ?hg (N := 28) ?hd (xs := ([(IntKind.u64.wrap (48 + x3_2)) % 256] : List Int)) (inner := [.int .u8 ((IntKind.u64.wrap (48 + x3_2)) % 256)]) (ok := fun _ => True) (okp := fun _ => True) ?hr ?hp (fun _ hk => hk) trivial (Below.refl _ _) (Nat.le_refl _) (by simp) ?_; (case hd => rfl); (case hg => rfl); (case hr => first | (go_simp; done) | (go_simp; rfl)); (case hp => exact (Reps.one (show Kd.M (Kd.int .u8) _ _ _ ((IntKind.u64.wrap (48 + x3_2)) % 256) [.int .u8 ((IntKind.u64.wrap (48 + x3_2)) % 256)] from rfl) (Reps.none _ _))); intro v251 w11 ho12 hb hg_ hnew_; clear hg_ hnew_; (first | rw [← Ny250.out] at ho12 | (simp only [Int.reduceToNat] at ho12; rw [← Ny250.out] at ho12)); have n0_ := qM (Kd.R_lower ho12 (qZ qF)); have n1_ := qM (qP qF hb); clear HB; have HO252 := n0_; have HB := n1_; clear n0_ n1_; clear hb ho12; have hcv13 := own_string (P := Tryd.prog) Tryd.underlying52 Tryd.underlying5 Tryd.underlying9 (Kd.own_of_R HO252.out)))
        (go_ret); (exact ⟨qE, qF⟩)
       ·rw [if_neg c10] at H
        exact absurd H (by simp)
      ·rw [if_neg c9] at H
       exact absurd H (by simp)
end Go.Proofs.YtlpkkkkgbnoiiaaDoor.H
end
