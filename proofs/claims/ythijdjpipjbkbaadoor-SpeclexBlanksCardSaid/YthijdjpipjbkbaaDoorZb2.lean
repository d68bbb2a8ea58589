/- A part (2 of 5) of this proof: A space or a comment line that is inserted before a token which follows no # does not change the tokens that Scan returns, for every text, number and choice that the guards let in. -/
import Derived.Test.YthijdjpipjbkbaaDoorRows
import Derived.WalkKit
import Derived.ProofKit
import Derived.OpenShut
import Derived.ShutString
import Derived.ChangeOld
import Derived.Below
import Derived.SizedLaws
import Derived.Maps.Own
import Derived.Maps.OwnOps
import Derived.Maps.OwnSet
import Derived.Handy
import Derived.Outline
import Derived.Lib.OthersKept
import Derived.Lib.RuneBytes
import Derived.Lib.RuneLoops
import Derived.Lib.RuneCountTail
import Derived.Lib.TrimU
import Derived.Lib.QuoteLoop
import Derived.Laws.RangeAny
import Derived.Test.YthijdjpipjbkbaaDoorZb1
section
namespace Go.Proofs.YthijdjpipjbkbaaDoor.H
open Go.RowKit Go.ChangeShapes Go.WideShapes Go.ChangeAt Go.Proofs.YthijdjpipjbkbaaDoorW.PrintWords Go.Proofs.YthijdjpipjbkbaaDoorW.PrintLast Go.Proofs.YthijdjpipjbkbaaDoorW.PrintMore
set_option linter.unusedVariables false
set_option linter.unusedSimpArgs false
structure Opens (b : Nat) {α : Type} (P : Program) (t : TypeId) (K : Kd α) (ok : α → Prop) (sz : α → Nat) : Prop where
  cells : P.cellsOf t = K.sz
  op : ∀ {H : Type} {enc : TypeId × Value → H} {W : World} {base : Nat} {sp : Nat → Bool} {held : Bool} {n : Nat} {cs : List Value} {x : DataW H × List MemPlace}, n ≤ b →
    DataW.trod enc P W base sp held n t cs = some x → (∀ u ∈ DataW.weights P t x.1, u ≤ reachBytes) → ∃ v, K.K W v cs ∧ ok v ∧ sz v ≤ Rows.uptoBulk x.1
section
variable {b : Nat} {P : Program} {α β : Type} {t e : TypeId}
theorem Opens.imp {K : Kd α} {ok ok' : α → Prop} {sz sz' : α → Nat} (h : Opens b P t K ok sz) (hi : ∀ x, ok x → ok' x) (hs : ∀ x, sz' x ≤ sz x) : Opens b P t K ok' sz' :=
  ⟨h.cells, fun hn h0 hw => by obtain ⟨v, hk, ho, hz⟩ := h.op hn h0 hw; exact ⟨v, hk, hi v ho, Nat.le_trans (hs v) hz⟩⟩
theorem Opens.of {H : Type} {enc : TypeId × Value → H} {W : World} {base : Nat} {sp : Nat → Bool} {held : Bool} {K : Kd α} {ok : α → Prop} {sz : α → Nat} (h : ∀ b, Opens b P t K ok sz) {v : Value} {d : DataW H} {ps : List MemPlace} {ts : List TypeId} {ds : List (DataW H)} {j : Nat}
    (hsz : (DataW.weightsEach P ts ds).all (· ≤ reachBytes) = true) (ht : ts[j]? = some t) (hd : ds[j]? = some d) (h0 : DataW.Trod enc P W base sp held t v d ps) : ∃ x, K.K W x v.cells.toList ∧ ok x ∧ sz x ≤ Rows.uptoBulk d := by
  obtain ⟨fuel, hf⟩ := h0
  exact (h fuel).op (Nat.le_refl _) hf (fun u hu => by simpa using List.all_eq_true.1 hsz u (DataW.weights_mem_each ht hd u hu))
end
end Go.Proofs.YthijdjpipjbkbaaDoor.H
end
section
namespace Go.Proofs.YthijdjpipjbkbaaDoor.H
open Go.RowKit Go.ChangeShapes Go.WideShapes Go.ChangeAt Go.Proofs.YthijdjpipjbkbaaDoorW.PrintWords Go.Proofs.YthijdjpipjbkbaaDoorW.PrintLast Go.Proofs.YthijdjpipjbkbaaDoorW.PrintMore
set_option linter.unusedVariables false
end Go.Proofs.YthijdjpipjbkbaaDoor.H
end
section
namespace Go.Proofs.YthijdjpipjbkbaaDoor.H
open Go.RowKit Go.Proofs.YthijdjpipjbkbaaDoorW.PrintWords Go.Proofs.YthijdjpipjbkbaaDoorW.PrintLast Go.Proofs.YthijdjpipjbkbaaDoorW.PrintMore
open Go.WideMaps Go.Maps
set_option linter.unusedVariables false
set_option linter.unusedSimpArgs false
theorem ba_ext {a b : ByteArray} (h : a.data.toList = b.data.toList) : a = b := by
  cases a; cases b; simp_all
instance decBA : DecidableEq ByteArray := fun a b => decidable_of_iff (a.data.toList = b.data.toList) ⟨ba_ext, fun h => by rw [h]⟩
instance decMemBA (s : ByteArray) (l : List ByteArray) : Decidable (s ∈ l) := decidable_of_iff (l.any (fun y => decide (y = s)) = true) (by simp)
end Go.Proofs.YthijdjpipjbkbaaDoor.H
end
section
namespace Go.Proofs.YthijdjpipjbkbaaDoor.H
open Go.RowKit
set_option linter.unusedVariables false
set_option linter.unusedSimpArgs false
theorem rune_w_pos (s : ByteArray) (pos : Nat) : 1 ≤ (Utf8.decode s pos).2 := Lib.width_pos s pos
theorem rune_w_le (s : ByteArray) (pos : Nat) (h : pos < s.size) : pos + (Utf8.decode s pos).2 ≤ s.size := by
  have h1 := Lib.tail_decode s pos 0
  have h2 := Lib.width_le (s.extract pos s.size) (by simp; omega)
  rw [Lib.tail_decode] at h2
  simp at h2
  omega
def runesFrom (s : ByteArray) : Nat → Nat → List S65
  | 0, _ => []
  | f + 1, pos => if pos < s.size then ⟨((Utf8.decode s pos).1 : Int), (pos : Int), ((Utf8.decode s pos).2 : Int)⟩ :: runesFrom s f (pos + (Utf8.decode s pos).2) else []
def runesL (s : ByteArray) : List S65 := runesFrom s s.size 0
theorem runesFrom_end (s : ByteArray) (f pos : Nat) (h : ¬ pos < s.size) : runesFrom s f pos = [] := by
  cases f <;> simp [runesFrom, h]
end Go.Proofs.YthijdjpipjbkbaaDoor.H
end
section
namespace Go.Proofs.YthijdjpipjbkbaaDoor.H
open Go.RowKit Go.Proofs.YthijdjpipjbkbaaDoorW.PrintWords Go.Proofs.YthijdjpipjbkbaaDoorW.PrintLast Go.Proofs.YthijdjpipjbkbaaDoorW.PrintMore
open Go.Maps
set_option linter.unusedVariables false
set_option linter.unusedSimpArgs false
def oneOf (s : ByteArray) : Int × Int := if s.size = 0 then (0, 0) else (((Utf8.decode s 0).1 : Int), ((Utf8.decode s 0).2 : Int))
def arboristref01_one.f (a0 : ByteArray) : Option (Int × Int) := some (oneOf a0)
end Go.Proofs.YthijdjpipjbkbaaDoor.H
end
section
namespace Go.Proofs.YthijdjpipjbkbaaDoor.H
open Go.RowKit Go.Proofs.YthijdjpipjbkbaaDoorW.PrintWords Go.Proofs.YthijdjpipjbkbaaDoorW.PrintLast Go.Proofs.YthijdjpipjbkbaaDoorW.PrintMore
attribute [local go_sem] max2_int min2_int max_two min_two max_three min_three max_four min_four
set_option linter.unusedVariables false
set_option linter.unusedSimpArgs false

end Go.Proofs.YthijdjpipjbkbaaDoor.H
end
section
namespace Go.Proofs.YthijdjpipjbkbaaDoor.H
open Go.RowKit Go.Proofs.YthijdjpipjbkbaaDoorW.PrintWords Go.Proofs.YthijdjpipjbkbaaDoorW.PrintLast Go.Proofs.YthijdjpipjbkbaaDoorW.PrintMore
set_option linter.unusedVariables false
def Ends {α : Type} (g : Nat → Option α) (v : α) : Prop := ∃ k0, ∀ k, k0 ≤ k → g k = some v
theorem Ends.const {α : Type} (v : α) : Ends (fun _ => some v) v := ⟨0, fun _ _ => rfl⟩
theorem Ends.of_mono {α : Type} {g : Nat → Option α} {v : α} (hm : ∀ k, LeO (g k) (g (k + 1))) (h : ∃ k, g k = some v) : Ends g v := by
  obtain ⟨k, hk⟩ := h
  refine ⟨k, fun m hmk => ?_⟩
  induction m with
  | zero => obtain rfl : k = 0 := by omega
            exact hk
  | succ m ih =>
    rcases Nat.lt_or_ge k (m + 1) with q | q
    · exact hm m v (ih (by omega))
    · obtain rfl : k = m + 1 := by omega
      exact hk
theorem Ends.step {α : Type} {g h : Nat → Option α} {v : α} (e : ∀ k, g (k + 1) = h k) (hh : Ends h v) : Ends g v := by
  obtain ⟨k0, hk⟩ := hh
  refine ⟨k0 + 1, fun k hk1 => ?_⟩
  obtain ⟨m, rfl⟩ : ∃ m, k = m + 1 := ⟨k - 1, by omega⟩
  rw [e]; exact hk m (by omega)
theorem Ends.bind {α β : Type} {f : Nat → Option α} {g : Nat → α → Option β} {a : α} {v : β} (hf : Ends f a) (hg : Ends (fun k => g k a) v) : Ends (fun k => (f k).bind (g k)) v := by
  obtain ⟨k1, h1⟩ := hf
  obtain ⟨k2, h2⟩ := hg
  refine ⟨k1 + k2, fun k hk => ?_⟩
  show (f k).bind (g k) = some v
  rw [h1 k (by omega)]; exact h2 k (by omega)
theorem Ends.bind0 {α β : Type} {f : Option α} {g : Nat → α → Option β} {a : α} {v : β} (hf : f = some a) (hg : Ends (fun k => g k a) v) : Ends (fun k => f.bind (g k)) v := by
  subst hf; exact hg
theorem Ends.pos {α : Type} {c : Prop} {d : Decidable c} {f g : Nat → Option α} {v : α} (hc : c) (h : Ends f v) : Ends (fun k => @ite _ c d (f k) (g k)) v := by
  obtain ⟨k0, hk⟩ := h
  exact ⟨k0, fun k hk1 => by simp only [if_pos hc]; exact hk k hk1⟩
theorem Ends.neg {α : Type} {c : Prop} {d : Decidable c} {f g : Nat → Option α} {v : α} (hc : ¬ c) (h : Ends g v) : Ends (fun k => @ite _ c d (f k) (g k)) v := by
  obtain ⟨k0, hk⟩ := h
  exact ⟨k0, fun k hk1 => by simp only [if_neg hc]; exact hk k hk1⟩
theorem Ends.get {α : Type} {g : Nat → Option α} {v : α} (h : Ends g v) : ∃ k, g k = some v := by
  obtain ⟨k0, hk⟩ := h
  exact ⟨k0, hk k0 (Nat.le_refl _)⟩
theorem Ends.val {α : Type} {g : Nat → Option α} {v w : α} (h : Ends g v) (e : v = w) : Ends g w := e ▸ h
end Go.Proofs.YthijdjpipjbkbaaDoor.H
end
section
namespace Go.Proofs.YthijdjpipjbkbaaDoor.H
open Go.RowKit Go.Proofs.YthijdjpipjbkbaaDoorW.PrintWords Go.Proofs.YthijdjpipjbkbaaDoorW.PrintLast Go.Proofs.YthijdjpipjbkbaaDoorW.PrintMore
attribute [local go_sem] max2_int min2_int max_two min_two max_three min_three max_four min_four
set_option linter.unusedVariables false
set_option linter.unusedSimpArgs false

def arboristref01_Invalid.f (a0_0 : Int) (a0_1 : Int) (a0_2 : Int) : Option (Bool) := if a0_0 = 65533 then (some (a0_2 == 1)) else (some false)

def speclex_letter.f (a0 : Int) : Option (Bool) := if (Go.bits .or .u8 a0 32) ≥ 97 then (if (Go.bits .or .u8 a0 32) ≤ 122 then (some true) else (some (a0 == 95))) else (some (a0 == 95))
set_option maxHeartbeats 8000000 in
set_option maxRecDepth 100000 in
theorem speclex_letter.calls (a0 : Int) (r : Bool) (w : World) (h : speclex_letter.f a0 = some r) :
  Calls Tryd.prog 15 #[.int .u8 a0] w fun e w' => e = .returned (.bool r) ∧ Drawn0 w w' := by
 (have H : (if (Go.bits .or .u8 a0 32) ≥ 97 then (if (Go.bits .or .u8 a0 32) ≤ 122 then (some true) else (some (a0 == 95))) else (some (a0 == 95))) = some r := h); clear h; (by_cases c2 : (Go.bits .or .u8 a0 32) ≥ 97)
 ·rw [if_pos c2] at H
  (have c2b0 : decide (97 ≤ (Go.bits .or .u8 a0 32)) = true := decide_eq_true c2); clear c2; (by_cases c3 : (Go.bits .or .u8 a0 32) ≤ 122)
  ·rw [if_pos c3] at H
   (have c3b0 : decide ((Go.bits .or .u8 a0 32) ≤ 122) = true := decide_eq_true c3); clear c3; (obtain rfl := Option.some.inj H); (go_enter Tryd.func15, Tryd.ntmps15); go_wp2; (go_ret); (exact ⟨qV, by repeat (first | exact Drawn0.refl _ | apply Drawn0.step)⟩)
  ·rw [if_neg c3] at H
   (have c3b0 : decide ((Go.bits .or .u8 a0 32) ≤ 122) = false := decide_eq_false c3); clear c3; (obtain rfl := Option.some.inj H); (go_enter Tryd.func15, Tryd.ntmps15); go_wp2; (go_ret); (exact ⟨qV, by repeat (first | exact Drawn0.refl _ | apply Drawn0.step)⟩)
 ·rw [if_neg c2] at H
  (have c2b0 : decide (97 ≤ (Go.bits .or .u8 a0 32)) = false := decide_eq_false c2); clear c2; (obtain rfl := Option.some.inj H); (go_enter Tryd.func15, Tryd.ntmps15); go_wp2; (go_ret); (exact ⟨qV, by repeat (first | exact Drawn0.refl _ | apply Drawn0.step)⟩)


mutual
def speclex_term.l0 : Nat → ByteArray → Bool → Int → Option (Int)
 | 0, _, _, _ => none
 | k + 1, x0, x3, x4 => if x4 < (x0.size : Int) then (if 0 ≤ x4 then (speclex_term.j1 k x0 x3 x4 ((bt x0 x4) != 10)) else (none)) else (speclex_term.j1 k x0 x3 x4 false)
def speclex_term.j1 : Nat → ByteArray → Bool → Int → Bool → Option (Int)
 | 0, _, _, _, _ => none
 | k + 1, x0, x3, x4, x14 => if x14 = true then (if x3 = true then (speclex_term.l0 k x0 false (wrap64 (x4 + 1))) else (if 0 ≤ x4 then (if x4 < (x0.size : Int) then (if (bt x0 x4) = 92 then (speclex_term.l0 k x0 true (wrap64 (x4 + 1))) else (if (bt x0 x4) = 47 then (some (wrap64 (x4 + 1))) else (speclex_term.l0 k x0 x3 (wrap64 (x4 + 1))))) else (none)) else (none))) else (some 0)
end
def speclex_term.f (k : Nat) (a0 : ByteArray) : Option (Int) := speclex_term.l0 k a0 false 1
theorem speclex_term.mono_l : ∀ k, (∀ y0 y1 y2, LeO (speclex_term.l0 k y0 y1 y2) (speclex_term.l0 (k + 1) y0 y1 y2)) ∧ (∀ y0 y1 y2 y3, LeO (speclex_term.j1 k y0 y1 y2 y3) (speclex_term.j1 (k + 1) y0 y1 y2 y3))
 | 0 => ⟨fun _ _ _ r h => by simp [speclex_term.l0] at h, fun _ _ _ _ r h => by simp [speclex_term.j1] at h⟩
 | k + 1 => by
  (obtain ⟨ih0, ih1⟩ := speclex_term.mono_l k); (refine ⟨?_, ?_⟩)
  ·intro y0 y1 y2
   unfold speclex_term.l0
   repeat' first
   | (with_reducible exact ih0 _ _ _)
   | (with_reducible exact ih1 _ _ _ _)
   | (with_reducible exact LeO.refl _)
   | (with_reducible exact LeO.none _)
   | (with_reducible refine LeO.ite ?_ ?_)
   | (with_reducible refine LeO.bind ?_ (fun _ => ?_))
   | exact ih0 _ _ _
   | exact ih1 _ _ _ _
   | exact LeO.none _
   | refine LeO.ite ?_ ?_
   | refine LeO.bind ?_ (fun _ => ?_)
  ·intro y0 y1 y2 y3
   unfold speclex_term.j1
   repeat' first
   | (with_reducible exact ih0 _ _ _)
   | (with_reducible exact ih1 _ _ _ _)
   | (with_reducible exact LeO.refl _)
   | (with_reducible exact LeO.none _)
   | (with_reducible refine LeO.ite ?_ ?_)
   | (with_reducible refine LeO.bind ?_ (fun _ => ?_))
   | exact ih0 _ _ _
   | exact ih1 _ _ _ _
   | exact LeO.none _
   | refine LeO.ite ?_ ?_
   | refine LeO.bind ?_ (fun _ => ?_)
theorem speclex_term.mono : ∀ a0 k, LeO (speclex_term.f k a0) (speclex_term.f (k + 1) a0) := by
 (intro a0 k); (obtain ⟨ih0, ih1⟩ := speclex_term.mono_l k); (unfold speclex_term.f)
 repeat' first
   | (with_reducible exact ih0 _ _ _)
   | (with_reducible exact ih1 _ _ _ _)
   | (with_reducible exact LeO.refl _)
   | (with_reducible exact LeO.none _)
   | (with_reducible refine LeO.ite ?_ ?_)
   | (with_reducible refine LeO.bind ?_ (fun _ => ?_))
   | exact ih0 _ _ _
   | exact ih1 _ _ _ _
   | exact LeO.none _
   | refine LeO.ite ?_ ?_
   | refine LeO.bind ?_ (fun _ => ?_)
set_option maxHeartbeats 8000000 in
set_option maxRecDepth 100000 in
theorem speclex_term.calls (k : Nat) (a0 : ByteArray) (r : Int) (w : World) (h : speclex_term.f k a0 = some r) :
  Calls Tryd.prog 29 #[.string a0] w fun e w' => e = .returned (.int .i64 r) ∧ Drawn0 w w' := by
 (have H : (speclex_term.l0 k a0 false 1) = some r := h); clear h; (have H' := qM H); clear H; (go_enter Tryd.func29, Tryd.ntmps29); go_wp2; (go_loopg [3, 4] k (fun kq v3 v4 w' => ∃ (x3_1 : Bool) (x4_1 : Int), v3 = .bool x3_1 ∧ v4 = .int .i64 x4_1 ∧ Aside0 (speclex_term.l0 kq a0 x3_1 x4_1 = some r) ∧ Aside0 (kq ≤ k) ∧ Drawn0 w w'))
 case atStart => exact ⟨(false), (1), qV, qV, H', ⟨Nat.le_refl _⟩, by repeat (first | exact Drawn0.refl _ | apply Drawn0.step)⟩
 case round =>
  (clear H'); (obtain ⟨x3_1, x4_1, rfl, rfl, HA, HK1, ⟨m1, rfl⟩⟩ := hrel)
  cases gk with
  | zero => exact absurd HA.out (by simp [speclex_term.l0])
  | succ k1 =>
   (have H := HA.out); clear HA; (simp only [speclex_term.l0] at H); (have HC2 := qM H); clear H; (go_upto_region 3 with (fail)); (go_cut [14] (fun v14 wc => ∃ (kq : Nat) (x14_1 : Bool), v14 = .bool x14_1 ∧ Aside0 (speclex_term.j1 kq a0 x3_1 x4_1 x14_1 = some r) ∧ Aside0 (kq ≤ k1) ∧ Drawn0 w wc))
   case first =>
    (have H := HC2.out); clear HC2; (by_cases c3 : x4_1 < (a0.size : Int))
    ·rw [if_pos c3] at H
     (have c3b0 : decide (x4_1 < (a0.size : Int)) = true := decide_eq_true c3); clear c3; ((first | rw [c3b0] | (simp only [i64_w, i32_w]; rw [c3b0]) | skip)); (by_cases c4 : 0 ≤ x4_1)
     ·rw [if_pos c4] at H
      (have c4b0 : decide (0 ≤ x4_1) = true := decide_eq_true c4); clear c4; (have H' := qM H); clear H; (have p5 : 0 ≤ (x4_1 : Int) := qo qX); (have q5 : x4_1 < (a0.size : Int) := qo qX); (have hx5 := bt_at a0 x4_1); (replace p5 := eq_true p5); (replace q5 := eq_true q5); go_wp2; go_meet
      case rel => exact ⟨_, (((bt a0 x4_1) != 10)), qV, H', ⟨by have := HK1.out; first | omega | exact Nat.le_refl _⟩, by repeat (first | exact Drawn0.refl _ | apply Drawn0.step)⟩
     ·rw [if_neg c4] at H
      exact absurd H (by simp)
    ·rw [if_neg c3] at H
     (have c3b0 : decide (x4_1 < (a0.size : Int)) = false := decide_eq_false c3); clear c3; ((first | rw [c3b0] | (simp only [i64_w, i32_w]; rw [c3b0]) | skip)); (have H' := qM H); clear H; go_wp2; go_meet
     case rel => exact ⟨_, (false), qV, H', ⟨by have := HK1.out; first | omega | exact Nat.le_refl _⟩, by repeat (first | exact Drawn0.refl _ | apply Drawn0.step)⟩
   case rest =>
    clear HC2; (try clear c2); (try clear p2); (try clear c3); (try clear c3b0); (try clear c4); (try clear c4b0); (try clear p5); (try clear q5); (try clear hx5); (try clear p5); (try clear q5); (obtain ⟨kq, x14_1, rfl, HA, HJ1, ⟨mc1, rfl⟩⟩ := hcut)
    cases kq with
    | zero => exact absurd HA.out (by simp [speclex_term.j1])
    | succ kj1 =>
     (have H := HA.out); clear HA; (simp only [speclex_term.j1] at H); (by_cases c6 : x14_1 = true)
     ·subst c6
      (have H1 : (if x3_1 = true then (speclex_term.l0 kj1 a0 false (wrap64 (x4_1 + 1))) else (if 0 ≤ x4_1 then (if x4_1 < (a0.size : Int) then (if (bt a0 x4_1) = 92 then (speclex_term.l0 kj1 a0 true (wrap64 (x4_1 + 1))) else (if (bt a0 x4_1) = 47 then (some (wrap64 (x4_1 + 1))) else (speclex_term.l0 kj1 a0 x3_1 (wrap64 (x4_1 + 1))))) else (none)) else (none))) = some r := by rw [if_pos rfl] at H; exact H); clear H; (have H := H1); clear H1; (by_cases c7 : x3_1 = true)
      ·subst c7
       (have H1 : (speclex_term.l0 kj1 a0 false (wrap64 (x4_1 + 1))) = some r := by rw [if_pos rfl] at H; exact H); clear H; (have H := H1); clear H1; (have H' := qM H); clear H; go_wp2; (go_roundg kj1)
       case measure => have := HK1.out; have := HJ1.out; omega
       case rel => exact ⟨(false), (wrap64 (x4_1 + 1)), qV, qV, H', ⟨by have := HK1.out; have := HJ1.out; omega⟩, by repeat (first | exact Drawn0.refl _ | apply Drawn0.step)⟩
      ·replace c7 := Bool.eq_false_iff.mpr c7
       subst c7; (have H1 : (if 0 ≤ x4_1 then (if x4_1 < (a0.size : Int) then (if (bt a0 x4_1) = 92 then (speclex_term.l0 kj1 a0 true (wrap64 (x4_1 + 1))) else (if (bt a0 x4_1) = 47 then (some (wrap64 (x4_1 + 1))) else (speclex_term.l0 kj1 a0 false (wrap64 (x4_1 + 1))))) else (none)) else (none)) = some r := by rw [if_neg (show ¬ (false = true) by decide)] at H; exact H); clear H; (have H := H1); clear H1; (by_cases c8 : 0 ≤ x4_1)
       ·rw [if_pos c8] at H
        (have c8b0 : decide (0 ≤ x4_1) = true := decide_eq_true c8); clear c8; (by_cases c9 : x4_1 < (a0.size : Int))
        ·rw [if_pos c9] at H
         (have c9b0 : decide (x4_1 < (a0.size : Int)) = true := decide_eq_true c9); clear c9; (by_cases c11 : (bt a0 x4_1) = 92)
         ·rw [if_pos c11] at H
          (have c11b0 : ((bt a0 x4_1) == 92) = true := beq_iff_eq.mpr c11); (have c11b1 : ((bt a0 x4_1) != 92) = false := bne_eq_false_iff_eq.mpr c11); clear c11; (have H' := qM H); clear H; (have p10 : 0 ≤ (x4_1 : Int) := qo qX); (have q10 : x4_1 < (a0.size : Int) := qo qX); (have hx10 := bt_at a0 x4_1); (replace p10 := eq_true p10); (replace q10 := eq_true q10); go_wp2; (go_roundg kj1)
          case measure => have := HK1.out; have := HJ1.out; omega
          case rel => exact ⟨(true), (wrap64 (x4_1 + 1)), qV, qV, H', ⟨by have := HK1.out; have := HJ1.out; omega⟩, by repeat (first | exact Drawn0.refl _ | apply Drawn0.step)⟩
         ·rw [if_neg c11] at H
          (have c11b0 : ((bt a0 x4_1) == 92) = false := beq_eq_false_iff_ne.mpr c11); (have c11b1 : ((bt a0 x4_1) != 92) = true := bne_iff_ne.mpr c11); (by_cases c13 : (bt a0 x4_1) = 47)
          ·rw [if_pos c13] at H
           (have c13b0 : ((bt a0 x4_1) == 47) = true := beq_iff_eq.mpr c13); (have c13b1 : ((bt a0 x4_1) != 47) = false := bne_eq_false_iff_eq.mpr c13); clear c13; (obtain rfl := Option.some.inj H); (have p10 : 0 ≤ (x4_1 : Int) := qo qX); (have q10 : x4_1 < (a0.size : Int) := qo qX); (have hx10 := bt_at a0 x4_1); (replace p10 := eq_true p10); (replace q10 := eq_true q10); (have p12 : 0 ≤ (x4_1 : Int) := qo qX); (have q12 : x4_1 < (a0.size : Int) := qo qX); (have hx12 := bt_at a0 x4_1); (replace p12 := eq_true p12); (replace q12 := eq_true q12); go_wp2; (go_ret); (exact ⟨qV, by repeat (first | exact Drawn0.refl _ | apply Drawn0.step)⟩)
          ·rw [if_neg c13] at H
           (have c13b0 : ((bt a0 x4_1) == 47) = false := beq_eq_false_iff_ne.mpr c13); (have c13b1 : ((bt a0 x4_1) != 47) = true := bne_iff_ne.mpr c13); (have H' := qM H); clear H; (have p10 : 0 ≤ (x4_1 : Int) := qo qX); (have q10 : x4_1 < (a0.size : Int) := qo qX); (have hx10 := bt_at a0 x4_1); (replace p10 := eq_true p10); (replace q10 := eq_true q10); (have p12 : 0 ≤ (x4_1 : Int) := qo qX); (have q12 : x4_1 < (a0.size : Int) := qo qX); (have hx12 := bt_at a0 x4_1); (replace p12 := eq_true p12); (replace q12 := eq_true q12); go_wp2; (go_roundg kj1)
           case measure => have := HK1.out; have := HJ1.out; omega
           case rel => exact ⟨(false), (wrap64 (x4_1 + 1)), qV, qV, H', ⟨by have := HK1.out; have := HJ1.out; omega⟩, by repeat (first | exact Drawn0.refl _ | apply Drawn0.step)⟩
        ·rw [if_neg c9] at H
         exact absurd H (by simp)
       ·rw [if_neg c8] at H
        exact absurd H (by simp)
     ·replace c6 := Bool.eq_false_iff.mpr c6
      subst c6; (have H1 : (some 0) = some r := by rw [if_neg (show ¬ (false = true) by decide)] at H; exact H); clear H; (have H := H1); clear H1; (obtain rfl := Option.some.inj H); go_wp2; (go_ret); (exact ⟨qV, by repeat (first | exact Drawn0.refl _ | apply Drawn0.step)⟩)
def utf8_ValidRune.j0 : Nat → Int → Bool → Option (Bool)
 | 0, _, _ => none
 | k + 1, x0, x3 => if x3 = true then (some true) else (if 57343 < x0 then (if x0 ≤ 1114111 then (some true) else (some false)) else (some false))
def utf8_ValidRune.f (k : Nat) (a0 : Int) : Option (Bool) := if 0 ≤ a0 then (utf8_ValidRune.j0 k a0 (decide (a0 < 55296))) else (utf8_ValidRune.j0 k a0 false)
theorem utf8_ValidRune.mono_l : ∀ k, (∀ y0 y1, LeO (utf8_ValidRune.j0 k y0 y1) (utf8_ValidRune.j0 (k + 1) y0 y1))
 | 0 => fun _ _ r h => by simp [utf8_ValidRune.j0] at h
 | k + 1 => by
  have ih0 := utf8_ValidRune.mono_l k
  ·intro y0 y1
   unfold utf8_ValidRune.j0
   repeat' first
   | (with_reducible exact ih0 _ _)
   | (with_reducible exact LeO.refl _)
   | (with_reducible exact LeO.none _)
   | (with_reducible refine LeO.ite ?_ ?_)
   | (with_reducible refine LeO.bind ?_ (fun _ => ?_))
   | exact ih0 _ _
   | exact LeO.none _
   | refine LeO.ite ?_ ?_
   | refine LeO.bind ?_ (fun _ => ?_)
theorem utf8_ValidRune.mono : ∀ a0 k, LeO (utf8_ValidRune.f k a0) (utf8_ValidRune.f (k + 1) a0) := by
 (intro a0 k); (have ih0 := utf8_ValidRune.mono_l k); (unfold utf8_ValidRune.f)
 repeat' first
   | (with_reducible exact ih0 _ _)
   | (with_reducible exact LeO.refl _)
   | (with_reducible exact LeO.none _)
   | (with_reducible refine LeO.ite ?_ ?_)
   | (with_reducible refine LeO.bind ?_ (fun _ => ?_))
   | exact ih0 _ _
   | exact LeO.none _
   | refine LeO.ite ?_ ?_
   | refine LeO.bind ?_ (fun _ => ?_)
set_option maxHeartbeats 8000000 in
set_option maxRecDepth 100000 in
theorem utf8_ValidRune.calls (k : Nat) (a0 : Int) (r : Bool) (w : World) (h : utf8_ValidRune.f k a0 = some r) :
  Calls Tryd.prog 72 #[.int .i32 a0] w fun e w' => e = .returned (.bool r) ∧ Drawn0 w w' := by
 (have H : (if 0 ≤ a0 then (utf8_ValidRune.j0 k a0 (decide (a0 < 55296))) else (utf8_ValidRune.j0 k a0 false)) = some r := h); clear h; (have HC2 := qM H); clear H; (go_enter Tryd.func72, Tryd.ntmps72); (go_upto_region 1 with (fail)); (go_cut [3] (fun v3 wc => ∃ (kq : Nat) (x3_1 : Bool), v3 = .bool x3_1 ∧ Aside0 (utf8_ValidRune.j0 kq a0 x3_1 = some r) ∧ Aside0 (kq ≤ k) ∧ Drawn0 w wc))
 case first =>
  (have H := HC2.out); clear HC2; (by_cases c3 : 0 ≤ a0)
  ·rw [if_pos c3] at H
   (have c3b0 : decide (0 ≤ a0) = true := decide_eq_true c3); clear c3; ((first | rw [c3b0] | (simp only [i64_w, i32_w]; rw [c3b0]) | skip)); (have H' := qM H); clear H; go_wp2; go_meet
   case rel => exact ⟨_, (decide (a0 < 55296)), qV, H', ⟨by first | omega | exact Nat.le_refl _⟩, by repeat (first | exact Drawn0.refl _ | apply Drawn0.step)⟩
  ·rw [if_neg c3] at H
   (have c3b0 : decide (0 ≤ a0) = false := decide_eq_false c3); clear c3; ((first | rw [c3b0] | (simp only [i64_w, i32_w]; rw [c3b0]) | skip)); (have H' := qM H); clear H; go_wp2; go_meet
   case rel => exact ⟨_, (false), qV, H', ⟨by first | omega | exact Nat.le_refl _⟩, by repeat (first | exact Drawn0.refl _ | apply Drawn0.step)⟩
 case rest =>
  clear HC2; (try clear p2); (try clear c3); (try clear c3b0); (obtain ⟨kq, x3_1, rfl, HA, HJ1, ⟨mc1, rfl⟩⟩ := hcut)
  cases kq with
  | zero => exact absurd HA.out (by simp [utf8_ValidRune.j0])
  | succ kj1 =>
   (have H := HA.out); clear HA; (simp only [utf8_ValidRune.j0] at H); (by_cases c4 : x3_1 = true)
   ·subst c4
    (have H1 : (some true) = some r := by rw [if_pos rfl] at H; exact H); clear H; (have H := H1); clear H1; (obtain rfl := Option.some.inj H); go_wp2; (go_ret); (exact ⟨qV, by repeat (first | exact Drawn0.refl _ | apply Drawn0.step)⟩)
   ·replace c4 := Bool.eq_false_iff.mpr c4
    subst c4; (have H1 : (if 57343 < a0 then (if a0 ≤ 1114111 then (some true) else (some false)) else (some false)) = some r := by rw [if_neg (show ¬ (false = true) by decide)] at H; exact H); clear H; (have H := H1); clear H1; (by_cases c5 : 57343 < a0)
    ·rw [if_pos c5] at H
     (have c5b0 : decide (57343 < a0) = true := decide_eq_true c5); clear c5; (by_cases c6 : a0 ≤ 1114111)
     ·rw [if_pos c6] at H
      (have c6b0 : decide (a0 ≤ 1114111) = true := decide_eq_true c6); clear c6; (obtain rfl := Option.some.inj H); go_wp2; (go_ret); (exact ⟨qV, by repeat (first | exact Drawn0.refl _ | apply Drawn0.step)⟩)
     ·rw [if_neg c6] at H
      (have c6b0 : decide (a0 ≤ 1114111) = false := decide_eq_false c6); clear c6; (obtain rfl := Option.some.inj H); go_wp2; (go_ret); (exact ⟨qV, by repeat (first | exact Drawn0.refl _ | apply Drawn0.step)⟩)
    ·rw [if_neg c5] at H
     (have c5b0 : decide (57343 < a0) = false := decide_eq_false c5); clear c5; (obtain rfl := Option.some.inj H); go_wp2; (go_ret); (exact ⟨qV, by repeat (first | exact Drawn0.refl _ | apply Drawn0.step)⟩)






def arboristref01_digit.j0 : Nat → Int → Bool → Option (Int)
 | 0, _, _ => none
 | k + 1, x0, x8 => if x8 = true then (some ((x0 - 48) % 256)) else (if x0 ≥ 97 then (if x0 ≤ 102 then (some (((x0 - 97) % 256) + 10)) else (some (-1))) else (some (-1)))
def arboristref01_digit.f (k : Nat) (a0 : Int) : Option (Int) := if a0 ≥ 48 then (arboristref01_digit.j0 k a0 (decide (a0 ≤ 57))) else (arboristref01_digit.j0 k a0 false)
mutual
def arboristref01_braced.j1 : Nat → ByteArray → Int → Int → Int → Option (Int × Int × Int)
 | 0, _, _, _, _ => none
 | k + 1, x0, x1, x9, x10 => if x10 = (x0.size : Int) then (some (0, 0, 13)) else (if 0 ≤ x10 then (if x10 < (x0.size : Int) then (if (bt x0 x10) = 10 then (some (0, 0, 13)) else (if (bt x0 x10) = 125 then (if (wrap64 (x10 - 1)) < x1 then (some (0, 0, 3)) else (some (x9, wrap64 (x10 + 1), 0))) else (some (0, 0, 3)))) else (none)) else (none))
def arboristref01_braced.l0 : Nat → ByteArray → Int → Int → Int → Int → Option (Int × Int × Int)
 | 0, _, _, _, _, _ => none
 | k + 1, x0, x1, x2, x9, x10 => if x10 < (x0.size : Int) then (if x10 ≤ x2 then (if 0 ≤ x10 then ((arboristref01_digit.f k (bt x0 x10)).bind fun t123 => (if t123 ≥ 0 then ((arboristref01_digit.f k (bt x0 x10)).bind fun t124 => (arboristref01_braced.l0 k x0 x1 x2 (wrap64 ((wrap64 (16 * x9)) + t124)) (wrap64 (x10 + 1)))) else (arboristref01_braced.j1 k x0 x1 x9 x10))) else (none)) else (arboristref01_braced.j1 k x0 x1 x9 x10)) else (arboristref01_braced.j1 k x0 x1 x9 x10)
end
def arboristref01_braced.f (k : Nat) (a0 : ByteArray) (a1 : Int) (a2 : Int) : Option (Int × Int × Int) := if a0.toList = ([] : List UInt8) then (some (0, 0, 13)) else (if 0 < (a0.size : Int) then (if (bt a0 0) = 123 then (arboristref01_braced.l0 k a0 a1 a2 0 1) else (some (0, 0, 3))) else (none))
mutual
def arboristref01_escape.j0 : Nat → ByteArray → Bool → Option (ByteArray × Int × Int)
 | 0, _, _ => none
 | k + 1, x0, x17 => if x17 = true then (some ((⟨#[]⟩ : ByteArray), 0, 13)) else (if 0 < (x0.size : Int) then (if (bt x0 0) = 34 then (arboristref01_escape.j1 k x0 (bt x0 0) ((bt x0 0) == 34)) else (arboristref01_escape.j1 k x0 (bt x0 0) ((bt x0 0) == 92))) else (none))
def arboristref01_escape.j1 : Nat → ByteArray → Int → Bool → Option (ByteArray × Int × Int)
 | 0, _, _, _ => none
 | k + 1, x0, x19, x20 => if x20 = true then (if 0 ≤ 1 then (if 1 ≤ (x0.size : Int) then (some (x0.extract 0 1, 1, 0)) else (none)) else (none)) else (if x19 = 110 then (some ((⟨#[10]⟩ : ByteArray), 1, 0)) else (if x19 = 114 then (some ((⟨#[13]⟩ : ByteArray), 1, 0)) else (if x19 = 116 then (some ((⟨#[9]⟩ : ByteArray), 1, 0)) else (if x19 = 120 then (if (x0.size : Int) > 1 then (if 1 < (x0.size : Int) then (if (bt x0 1) = 10 then (some ((⟨#[]⟩ : ByteArray), 0, 13)) else (if 1 ≤ (x0.size : Int) then ((arboristref01_braced.f k (x0.extract 1 x0.size) 2 2).bind fun bt125 => (some (strOfNums (([(bt125.1) % 256] : List Int)), wrap64 (1 + bt125.2.1), bt125.2.2))) else (none))) else (none)) else (if 1 ≤ (x0.size : Int) then ((arboristref01_braced.f k (x0.extract 1 x0.size) 2 2).bind fun bt131 => (some (strOfNums (([(bt131.1) % 256] : List Int)), wrap64 (1 + bt131.2.1), bt131.2.2))) else (none))) else (if x19 = 117 then (if (x0.size : Int) > 1 then (if 1 < (x0.size : Int) then (arboristref01_escape.j2 k x0 ((bt x0 1) == 10)) else (none)) else (arboristref01_escape.j2 k x0 false)) else (some ((⟨#[]⟩ : ByteArray), 0, 3)))))))
def arboristref01_escape.j2 : Nat → ByteArray → Bool → Option (ByteArray × Int × Int)
 | 0, _, _ => none
 | k + 1, x0, x64 => if x64 = true then (some ((⟨#[]⟩ : ByteArray), 0, 13)) else (if 1 ≤ (x0.size : Int) then ((arboristref01_braced.f k (x0.extract 1 x0.size) 1 6).bind fun bt137 => (if bt137.2.2 = 0 then (if bt137.1 > 1114111 then (some ((Utf8.encode (wrap32 (bt137.1))), wrap64 (1 + bt137.2.1), 3)) else (if bt137.1 ≥ 55296 then (if bt137.1 ≤ 57343 then (some ((Utf8.encode (wrap32 (bt137.1))), wrap64 (1 + bt137.2.1), 3)) else (some ((Utf8.encode (wrap32 (bt137.1))), wrap64 (1 + bt137.2.1), bt137.2.2))) else (some ((Utf8.encode (wrap32 (bt137.1))), wrap64 (1 + bt137.2.1), bt137.2.2)))) else (some ((Utf8.encode (wrap32 (bt137.1))), wrap64 (1 + bt137.2.1), bt137.2.2)))) else (none))
end
def arboristref01_escape.f (k : Nat) (a0 : ByteArray) : Option (ByteArray × Int × Int) := if a0.toList = ([] : List UInt8) then (arboristref01_escape.j0 k a0 true) else (if 0 < (a0.size : Int) then (arboristref01_escape.j0 k a0 ((bt a0 0) == 10)) else (none))
mutual
def arboristref01_Unquote.j0 : Nat → ByteArray → Bool → Option (ByteArray × Int × Int)
 | 0, _, _ => none
 | k + 1, x0, x18 => if x18 = true then (some ((⟨#[]⟩ : ByteArray), 0, 3)) else (arboristref01_Unquote.l0 k x0 (⟨#[]⟩ : ByteArray) 1)
def arboristref01_Unquote.l0 : Nat → ByteArray → ByteArray → Int → Option (ByteArray × Int × Int)
 | 0, _, _, _ => none
 | k + 1, x0, x5, x6 => if x6 < (x0.size : Int) then (if 0 ≤ x6 then (if x6 ≤ (x0.size : Int) then ((arboristref01_one.f (x0.extract (x6 : Int).toNat x0.size)).bind fun bt141 => (if bt141.1 = 34 then (some (x5, wrap64 (x6 + 1), 0)) else (if bt141.1 = 10 then (some ((⟨#[]⟩ : ByteArray), 0, 13)) else (if bt141.1 = 92 then (if 0 ≤ (wrap64 (x6 + 1)) then (if (wrap64 (x6 + 1)) ≤ (x0.size : Int) then ((arboristref01_escape.f k (x0.extract ((wrap64 (x6 + 1)) : Int).toNat x0.size)).bind fun bt143 => (if bt143.2.2 = 0 then (if x5.size + bt143.1.size ≤ 9223372036854775807 then (arboristref01_Unquote.l0 k x0 (x5 ++ bt143.1) (wrap64 (x6 + (wrap64 (1 + bt143.2.1))))) else (none)) else (some ((⟨#[]⟩ : ByteArray), 0, bt143.2.2)))) else (none)) else (none)) else (if bt141.1 < 32 then (some ((⟨#[]⟩ : ByteArray), 0, 3)) else (if bt141.1 = 127 then (some ((⟨#[]⟩ : ByteArray), 0, 3)) else ((arboristref01_Invalid.f bt141.1 0 bt141.2).bind fun t146 => (if t146 = true then (some ((⟨#[]⟩ : ByteArray), 0, 3)) else (if x6 ≤ (wrap64 (x6 + bt141.2)) then (if (wrap64 (x6 + bt141.2)) ≤ (x0.size : Int) then (if x5.size + (x0.extract (x6 : Int).toNat ((wrap64 (x6 + bt141.2)) : Int).toNat).size ≤ 9223372036854775807 then (arboristref01_Unquote.l0 k x0 (x5 ++ (x0.extract (x6 : Int).toNat ((wrap64 (x6 + bt141.2)) : Int).toNat)) (wrap64 (x6 + bt141.2))) else (none)) else (none)) else (none)))))))))) else (none)) else (none)) else (some ((⟨#[]⟩ : ByteArray), 0, 13))
end
def arboristref01_Unquote.f (k : Nat) (a0 : ByteArray) : Option (ByteArray × Int × Int) := if a0.toList = ([] : List UInt8) then (arboristref01_Unquote.j0 k a0 true) else (if 0 < (a0.size : Int) then (arboristref01_Unquote.j0 k a0 ((bt a0 0) != 34)) else (none))

end Go.Proofs.YthijdjpipjbkbaaDoor.H
end
section
namespace Go.Proofs.YthijdjpipjbkbaaDoor.H
open Go.RowKit Go.Proofs.YthijdjpipjbkbaaDoorW.PrintWords Go.Proofs.YthijdjpipjbkbaaDoorW.PrintLast Go.Proofs.YthijdjpipjbkbaaDoorW.PrintMore
attribute [local go_sem] max2_int min2_int max_two min_two max_three min_three max_four min_four
set_option linter.unusedVariables false
set_option linter.unusedSimpArgs false
end Go.Proofs.YthijdjpipjbkbaaDoor.H
end
section
namespace Go.Proofs.YthijdjpipjbkbaaDoor.H
open Go.RowKit Go.Proofs.YthijdjpipjbkbaaDoorW.PrintWords Go.Proofs.YthijdjpipjbkbaaDoorW.PrintLast Go.Proofs.YthijdjpipjbkbaaDoorW.PrintMore
attribute [local go_sem] max2_int min2_int max_two min_two max_three min_three max_four min_four
set_option linter.unusedVariables false
set_option linter.unusedSimpArgs false

theorem eqA26 (d : Nat) (w : World) (x0 y0 : Int) (x1 y1 : Int) (x2 y2 : ByteArray) :
  (Op.equalIn (d + 2) 26 (.agg #[.int .i64 x0, .int .i64 x1, .string x2]) (.agg #[.int .i64 y0, .int .i64 y1, .string y2])).run Tryd.prog w = .ok (x0 == y0 && (x1 == y1 && (x2.toList == y2.toList))) w := by
 (refine eqA_of Tryd.underlying26 (by kernel_rfl) ?_); (refine eqf_cons (by rfl) (by go_simp; rfl) (by go_simp; rfl) (by go_simp) ?_); (refine eqf_cons (by rfl) (by go_simp; rfl) (by go_simp; rfl) (by go_simp) ?_); (exact eqf_last (by rfl) (by go_simp; rfl) (by go_simp; rfl) (by go_simp))
def arboristlaw11_same.l0 : Nat → List (S32) → List (S32) → Int → Option (Bool)
 | 0, _, _, _ => none
 | k + 1, x0, x1, x5 => if x5 < (x0.length : Int) then (if 0 ≤ x5 then (if x5 < (x1.length : Int) then (if ((rd_T32 x0 x5).f0) = ((rd_T32 x1 x5).f0) then (if ((rd_T32 x0 x5).f1).toList = ((rd_T32 x1 x5).f1).toList then (arboristlaw11_same.l0 k x0 x1 (wrap64 (x5 + 1))) else (some false)) else (some false)) else (none)) else (none)) else (some true)
def arboristlaw11_same.f (k : Nat) (l0 : List (S32)) (l1 : List (S32)) : Option (Bool) := if (l0.length : Int) = (l1.length : Int) then (arboristlaw11_same.l0 k l0 l1 0) else (some false)
set_option maxHeartbeats 8000000 in
set_option maxRecDepth 100000 in
theorem arboristlaw11_same.calls (k : Nat) (A0 : Option Addr) (c0 : Nat) (l0 : List (S32)) (A1 : Option Addr) (c1 : Nat) (l1 : List (S32)) (r : Bool) (w : World) (hr0 : Kd.C k32 w A0 l0.length l0) (hc0 : l0.length ≤ c0) (hr1 : Kd.C k32 w A1 l1.length l1) (hc1 : l1.length ≤ c1) (h : arboristlaw11_same.f k l0 l1 = some r) :
  Calls Tryd.prog 11 #[.slice A0 l0.length c0, .slice A1 l1.length c1] w fun e w' => e = .returned (.bool r) ∧ Drawn0 w w' := by
 (have HR0 := qM hr0); (have HC0 := qM hc0); clear hr0 hc0; (have HR1 := qM hr1); (have HC1 := qM hc1); clear hr1 hc1; (have H : (if (l0.length : Int) = (l1.length : Int) then (arboristlaw11_same.l0 k l0 l1 0) else (some false)) = some r := h); clear h; (by_cases c3 : (l0.length : Int) = (l1.length : Int))
 ·rw [if_pos c3] at H
  (have c3b0 : ((l0.length : Int) == (l1.length : Int)) = true := beq_iff_eq.mpr c3); (have c3b1 : ((l0.length : Int) != (l1.length : Int)) = false := bne_eq_false_iff_eq.mpr c3); (have c3b2 : (l0.length == l1.length) = true := by first | simpa using c3 | (simp at c3 ⊢; omega)); clear c3; (have H' := qM H); clear H; (go_enter Tryd.func11, Tryd.ntmps11); go_wp2; (repeat (go_quiet (fail); try go_wp2)); (go_loopg [5] k (fun kq v5 w' => ∃ (x5_1 : Int), v5 = .int .i64 x5_1 ∧ Aside0 (arboristlaw11_same.l0 kq l0 l1 x5_1 = some r) ∧ Aside0 (kq ≤ k) ∧ Drawn0 w w'))
  case atStart => exact ⟨(0), qV, H', ⟨Nat.le_refl _⟩, by repeat (first | exact Drawn0.refl _ | apply Drawn0.step)⟩
  case round =>
   (clear H'); (try clear c1); (try clear p2); (try clear c3); (try clear c3b0); (try clear c3b1); (try clear c3b2); (obtain ⟨x5_1, rfl, HA, HK1, ⟨m1, rfl⟩⟩ := hrel)
   cases gk with
   | zero => exact absurd HA.out (by simp [arboristlaw11_same.l0])
   | succ k1 =>
    (have H := HA.out); clear HA; (simp only [arboristlaw11_same.l0] at H); (by_cases c4 : x5_1 < (l0.length : Int))
    ·rw [if_pos c4] at H
     (have c4b0 : decide (x5_1 < (l0.length : Int)) = true := decide_eq_true c4); clear c4; (by_cases c5 : 0 ≤ x5_1)
     ·rw [if_pos c5] at H
      (have c5b0 : decide (0 ≤ x5_1) = true := decide_eq_true c5); clear c5; (by_cases c6 : x5_1 < (l1.length : Int))
      ·rw [if_pos c6] at H
       (have c6b0 : decide (x5_1 < (l1.length : Int)) = true := decide_eq_true c6); clear c6; (by_cases c7 : ((rd_T32 l0 x5_1).f0) = ((rd_T32 l1 x5_1).f0))
       ·rw [if_pos c7] at H
        (have c7b0 : (((rd_T32 l0 x5_1).f0) == ((rd_T32 l1 x5_1).f0)) = true := beq_iff_eq.mpr c7); (have c7b1 : (((rd_T32 l0 x5_1).f0) != ((rd_T32 l1 x5_1).f0)) = false := bne_eq_false_iff_eq.mpr c7); clear c7; (by_cases c8 : ((rd_T32 l0 x5_1).f1).toList = ((rd_T32 l1 x5_1).f1).toList)
        ·rw [if_pos c8] at H
         (have c8b0 : (((rd_T32 l0 x5_1).f1).toList == ((rd_T32 l1 x5_1).f1).toList) = true := beq_iff_eq.mpr c8); (have c8b1 : (((rd_T32 l0 x5_1).f1).toList != ((rd_T32 l1 x5_1).f1).toList) = false := bne_eq_false_iff_eq.mpr c8); clear c8; (have H' := qM H); clear H; (have p176 : 0 ≤ (x5_1 : Int) := qo qX); (have q176 : x5_1 < (l0.length : Int) := qo qX); (obtain ⟨ad176, e176, hx176_0, hx176_1, hx176_2⟩ := at_T32 HR0.out x5_1 p176 q176)
         cases e176
         (replace p176 := eq_true p176); (replace q176 := eq_true q176); (have p177 : 0 ≤ (x5_1 : Int) := qo qX); (have q177 : x5_1 < (l1.length : Int) := qo qX); (obtain ⟨ad177, e177, hx177_0, hx177_1, hx177_2⟩ := at_T32 HR1.out x5_1 p177 q177)
         cases e177
         (replace p177 := eq_true p177); (replace q177 := eq_true q177); (have p178 : 0 ≤ (x5_1 : Int) := qo qX); (have q178 : x5_1 < (l0.length : Int) := qo qX); (obtain ⟨ad178, e178, hx178_0, hx178_1, hx178_2⟩ := at_T32 HR0.out x5_1 p178 q178); (obtain rfl : ad176 = ad178 := (by injection e178)); (replace p178 := eq_true p178); (replace q178 := eq_true q178); (have p179 : 0 ≤ (x5_1 : Int) := qo qX); (have q179 : x5_1 < (l1.length : Int) := qo qX); (obtain ⟨ad179, e179, hx179_0, hx179_1, hx179_2⟩ := at_T32 HR1.out x5_1 p179 q179); (obtain rfl : ad177 = ad179 := (by injection e179)); (replace p179 := eq_true p179); (replace q179 := eq_true q179); go_wp2; (repeat (go_quiet (fail); try go_wp2)); (go_roundg k1)
         case measure => have := HK1.out; omega
         case rel => exact ⟨(wrap64 (x5_1 + 1)), qV, H', ⟨by have := HK1.out; omega⟩, by repeat (first | exact Drawn0.refl _ | apply Drawn0.step)⟩
        ·rw [if_neg c8] at H
         (have c8b0 : (((rd_T32 l0 x5_1).f1).toList == ((rd_T32 l1 x5_1).f1).toList) = false := beq_eq_false_iff_ne.mpr c8); (have c8b1 : (((rd_T32 l0 x5_1).f1).toList != ((rd_T32 l1 x5_1).f1).toList) = true := bne_iff_ne.mpr c8); (obtain rfl := Option.some.inj H); (have p176 : 0 ≤ (x5_1 : Int) := qo qX); (have q176 : x5_1 < (l0.length : Int) := qo qX); (obtain ⟨ad176, e176, hx176_0, hx176_1, hx176_2⟩ := at_T32 HR0.out x5_1 p176 q176)
         cases e176
         (replace p176 := eq_true p176); (replace q176 := eq_true q176); (have p177 : 0 ≤ (x5_1 : Int) := qo qX); (have q177 : x5_1 < (l1.length : Int) := qo qX); (obtain ⟨ad177, e177, hx177_0, hx177_1, hx177_2⟩ := at_T32 HR1.out x5_1 p177 q177)
         cases e177
         (replace p177 := eq_true p177); (replace q177 := eq_true q177); (have p178 : 0 ≤ (x5_1 : Int) := qo qX); (have q178 : x5_1 < (l0.length : Int) := qo qX); (obtain ⟨ad178, e178, hx178_0, hx178_1, hx178_2⟩ := at_T32 HR0.out x5_1 p178 q178); (obtain rfl : ad176 = ad178 := (by injection e178)); (replace p178 := eq_true p178); (replace q178 := eq_true q178); (have p179 : 0 ≤ (x5_1 : Int) := qo qX); (have q179 : x5_1 < (l1.length : Int) := qo qX); (obtain ⟨ad179, e179, hx179_0, hx179_1, hx179_2⟩ := at_T32 HR1.out x5_1 p179 q179); (obtain rfl : ad177 = ad179 := (by injection e179)); (replace p179 := eq_true p179); (replace q179 := eq_true q179); go_wp2; (repeat (go_quiet (fail); try go_wp2)); (go_ret); (exact ⟨qV, by repeat (first | exact Drawn0.refl _ | apply Drawn0.step)⟩)
       ·rw [if_neg c7] at H
        (have c7b0 : (((rd_T32 l0 x5_1).f0) == ((rd_T32 l1 x5_1).f0)) = false := beq_eq_false_iff_ne.mpr c7); (have c7b1 : (((rd_T32 l0 x5_1).f0) != ((rd_T32 l1 x5_1).f0)) = true := bne_iff_ne.mpr c7); (obtain rfl := Option.some.inj H); (have p176 : 0 ≤ (x5_1 : Int) := qo qX); (have q176 : x5_1 < (l0.length : Int) := qo qX); (obtain ⟨ad176, e176, hx176_0, hx176_1, hx176_2⟩ := at_T32 HR0.out x5_1 p176 q176)
        cases e176
        (replace p176 := eq_true p176); (replace q176 := eq_true q176); (have p177 : 0 ≤ (x5_1 : Int) := qo qX); (have q177 : x5_1 < (l1.length : Int) := qo qX); (obtain ⟨ad177, e177, hx177_0, hx177_1, hx177_2⟩ := at_T32 HR1.out x5_1 p177 q177)
        cases e177
        (replace p177 := eq_true p177); (replace q177 := eq_true q177); go_wp2; (repeat (go_quiet (fail); try go_wp2)); (go_ret); (exact ⟨qV, by repeat (first | exact Drawn0.refl _ | apply Drawn0.step)⟩)
      ·rw [if_neg c6] at H
       exact absurd H (by simp)
     ·rw [if_neg c5] at H
      exact absurd H (by simp)
    ·rw [if_neg c4] at H
     (have c4b0 : decide (x5_1 < (l0.length : Int)) = false := decide_eq_false c4); clear c4; (obtain rfl := Option.some.inj H); go_wp2; (repeat (go_quiet (fail); try go_wp2)); (go_ret); (exact ⟨qV, by repeat (first | exact Drawn0.refl _ | apply Drawn0.step)⟩)
 ·rw [if_neg c3] at H
  (have c3b0 : ((l0.length : Int) == (l1.length : Int)) = false := beq_eq_false_iff_ne.mpr c3); (have c3b1 : ((l0.length : Int) != (l1.length : Int)) = true := bne_iff_ne.mpr c3); (have c3b2 : (l0.length == l1.length) = false := by first | simpa using c3 | (simp at c3 ⊢; omega)); (obtain rfl := Option.some.inj H); (go_enter Tryd.func11, Tryd.ntmps11); go_wp2; (repeat (go_quiet (fail); try go_wp2)); (go_ret); (exact ⟨qV, by repeat (first | exact Drawn0.refl _ | apply Drawn0.step)⟩)
end Go.Proofs.YthijdjpipjbkbaaDoor.H
end
