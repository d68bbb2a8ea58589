/- For every grammar and tree that the guards let in, CstWithin returns true: in a valid tree without errors every leaf except the end has a nonempty text. -/
import Derived.Laws.IdiomStrings
import Derived.Laws.BitsLemmas
import Derived.Shelf.Strings.BuilderK
import Derived.Shelf.Strings.OnBuilder
import Derived.Deep.RegionHeld3
import Derived.Test.YtphmgaijkdflnaaDoorRows
import Derived.Test.YtphmgaijkdflnaaDoorTie
import Derived.Test.YtphmgaijkdflnaaDoorCards
import Derived.Deep.DeepHandedRow
import Derived.ProofKit
import Derived.SizedLaws
import Derived.OpenShut
import Derived.ShutString
import Derived.ChangeOld
import Derived.Below
import Derived.SevenTiedAt
import Derived.WalkKit
import Derived.Stop.LaidErr
import Derived.Test.YtphmgaijkdflnaaDoorZw5
section
namespace Go.Proofs.YtphmgaijkdflnaaDoor.H
open Go.RowKit Go.Proofs.YtphmgaijkdflnaaDoorW.PrintWords Go.Proofs.YtphmgaijkdflnaaDoorW.PrintLast Go.Proofs.YtphmgaijkdflnaaDoorW.PrintMore
open Go.Maps
set_option linter.unusedVariables false
set_option linter.unusedSimpArgs false
def hexD (d : Nat) : UInt8 := UInt8.ofNat (if d < 10 then 48 + d else 87 + d)
def hexL : Nat → Nat → List UInt8 → List UInt8
  | 0, u, acc => hexD (u % 16) :: acc
  | f + 1, u, acc => if 16 ≤ u then hexL f (u / 16) (hexD (u % 16) :: acc) else hexD u :: acc
set_option maxRecDepth 100000 in
set_option maxHeartbeats 1000000 in
theorem pow2_calls (w : World) : Calls Tryd.prog 95 #[.int .i64 16] w fun e w' => e = .returned (.bool true) ∧ w' = w := by
  go_enter Tryd.func95, Tryd.ntmps95
  go_wp2
  go_ret
  exact ⟨rfl, rfl⟩
set_option maxRecDepth 100000 in
set_option maxHeartbeats 1000000 in
theorem tz64_calls (w : World) (hdb : w.cell? ⟨4, 15, none⟩ = some (.int .u8 4)) : Calls Tryd.prog 98 #[.int .u64 16] w fun e w' => e = .returned (.int .i64 4) ∧ w' = w := by
  go_enter Tryd.func98, Tryd.ntmps98
  have e1 : bits BinOp.and IntKind.u64 16 (IntKind.u64.wrap (-16)) = 16 := by kernel_rfl
  have e2 : IntKind.u64.wrap (16 * 285870213051353865) = 4573923408821661840 := by kernel_rfl
  go_wp2
  go_ret
  exact ⟨rfl, rfl⟩
set_option maxRecDepth 100000 in
theorem tz_calls (w : World) (hdb : w.cell? ⟨4, 15, none⟩ = some (.int .u8 4)) : Calls Tryd.prog 96 #[.int .u64 16] w fun e w' => e = .returned (.int .i64 4) ∧ w' = w := by
  go_enter Tryd.func96, Tryd.ntmps96
  go_wp2_with (go_at_call 98; refine (tz64_calls _ hdb).mono ?_; rintro e w' ⟨rfl, rfl⟩)
  go_ret
  exact ⟨rfl, rfl⟩
def Row65 (g i : Nat) (acc : List UInt8) (w : World) : Prop :=
  ∃ cs : Array Value, w.heap[g]? = some (.cells cs 124 (0, 0)) ∧ cs.size = 65 ∧ i + acc.length = 65 ∧ (∀ j, j < 65 → ∃ c : Int, cs[j]? = some (.int .u8 c)) ∧ ∀ j (hj : j < acc.length), cs[i + j]? = some (.int .u8 (acc[j].toNat : Int))
theorem Row65.new (w : World) : Row65 w.heap.size 65 [] (w.alloc (.cells (Array.replicate 65 (.int .u8 0)) 124)) :=
  ⟨_, blk_new w _, by simp, rfl, fun j hj => ⟨0, by simp [hj]⟩, fun j hj => by simp at hj⟩
theorem Row65.cell {g i : Nat} {acc : List UInt8} {w : World} (h : Row65 g i acc w) (j : Nat) (hj : j < 65) : ∃ c : Int, w.cell? ⟨g, j, none⟩ = some (.int .u8 c) ∧ w.frozen? ⟨g, j, none⟩ = false := by
  obtain ⟨cs, hb, hs, hl, hall, hacc⟩ := h
  obtain ⟨c, hc⟩ := hall j hj
  exact ⟨c, (blk_cell hb j).trans hc, blk_frozen hb j⟩
theorem Row65.put {g i : Nat} {acc : List UInt8} {w : World} (h : Row65 g (i + 1) acc w) (c : UInt8) : Row65 g i (c :: acc) (w.setCell ⟨g, i, none⟩ (.int .u8 (c.toNat : Int))) := by
  obtain ⟨cs, hb, hs, hl, hall, hacc⟩ := h
  refine ⟨_, blk_put hb i _ rfl, by simp [hs], by simp; omega, fun j hj => ?_, fun j hj => ?_⟩
  · by_cases e : i = j
    · subst e; exact ⟨_, by rw [Array.getElem?_setIfInBounds_self_of_lt (by omega)]⟩
    · rw [Array.getElem?_setIfInBounds_ne e]; exact hall j hj
  · cases j with
    | zero => rw [Nat.add_zero, Array.getElem?_setIfInBounds_self_of_lt (by omega)]; rfl
    | succ j =>
      rw [Array.getElem?_setIfInBounds_ne (by omega)]
      have := hacc j (by simpa using hj)
      rw [show i + (j + 1) = i + 1 + j by omega]
      simpa using this
theorem Row65.read {g i : Nat} {acc : List UInt8} {w : World} (h : Row65 g i acc w) (cap : Nat) : (convert 50 9 (.slice (some ⟨g, i, none⟩) (65 - i) cap)).run Tryd.prog w = .ok (.string ⟨acc.toArray⟩) w := by
  obtain ⟨cs, hb, hs, hl, hall, hacc⟩ := h
  rw [show 65 - i = acc.length by omega]
  refine run_convert_bytes_back w 50 9 5 ⟨g, i, none⟩ cap acc Tryd.underlying50 Tryd.underlying5 Tryd.underlying9 (fun j hj => ?_)
  have : (⟨g, i, none⟩ : Addr).add j = ⟨g, i + j, none⟩ := by cases j <;> simp [Addr.add]
  rw [this, blk_cell hb]
  exact hacc j hj
theorem dig36 (d : Nat) (hd : d < 16) : ∀ h, (⟨#[48, 49, 50, 51, 52, 53, 54, 55, 56, 57, 97, 98, 99, 100, 101, 102, 103, 104, 105, 106, 107, 108, 109, 110, 111, 112, 113, 114, 115, 116, 117, 118, 119, 120, 121, 122]⟩ : ByteArray)[d]'h = hexD d := by
  have H : ∀ d, d < 16 → ∀ h, (⟨#[48, 49, 50, 51, 52, 53, 54, 55, 56, 57, 97, 98, 99, 100, 101, 102, 103, 104, 105, 106, 107, 108, 109, 110, 111, 112, 113, 114, 115, 116, 117, 118, 119, 120, 121, 122]⟩ : ByteArray)[d]'h = hexD d := by decide
  exact H d hd
theorem sl65 (g j : Nat) (hj : j < 65) (W : World) : (Instr.sliceAt 124 (.pointer (some ⟨g, 0, none⟩)) (some (.int .i64 (j : Int))) none none).run Tryd.prog W = .ok (.slice (some ⟨g, j, none⟩) (65 - j) (65 - j)) W := by
  have hal : Tryd.prog.arrayLen 124 = 65 := by simp [Program.arrayLen, Tryd.underlying124]
  rw [run_sliceAt_array_l W 124 ⟨g, 0, none⟩ (by simp [Program.arrayLen, Program.elem, Tryd.underlying124]) .i64 (j : Int) (by omega) (by rw [hal]; omega)]
  rw [hal]
  go_simp
  omega
def FbRel (g u : Nat) (vu vi : Value) (w wr : World) : Prop :=
  ∃ (f v i : Nat) (acc : List UInt8), vu = .int .u64 (v : Int) ∧ vi = .int .i64 (i : Int) ∧ v < 16 ^ (f + 1) ∧ f + 50 ≤ i ∧ i ≤ 65 ∧ f ≤ 14 ∧ hexL f v acc = hexL 14 u [] ∧ Row65 g i acc wr ∧ Below g w wr
theorem fb_and (v : Nat) (h : v < 18446744073709551616) : bits BinOp.and IntKind.u64 (v : Int) 15 = ((v % 16 : Nat) : Int) := by
  have := bits_mask .u64 64 (by decide) (fun n h0 h1 => by simp [IntKind.wrap, IntKind.bits, IntKind.signed]; omega) 4 (by decide) (v : Int) (by omega) (by omega)
  simpa using this
set_option maxRecDepth 100000 in
set_option maxHeartbeats 4000000 in
theorem formatBits_calls (u : Nat) (hu : u < 2147483648) (w : World) (hdb : w.cell? ⟨4, 15, none⟩ = some (.int .u8 4)) :
    Calls Tryd.prog 91 #[.slice none 0 0, .int .u64 (u : Int), .int .i64 16, .bool false, .bool false] w fun e w' => e = .returned (.tuple #[.slice none 0 0, .string ⟨(hexL 14 u []).toArray⟩]) ∧ Below w.heap.size w w' := by
  have HDB := Aside0.mk (cell_below hdb (below_alloc (Below.refl _ w) (.cells (Array.replicate 65 (.int .u8 0)) 124)))
  clear hdb
  go_enter Tryd.func91, Tryd.ntmps91
  go_wp2_with (first
    | (go_at_call 95; refine (pow2_calls _).mono ?_; rintro e w' ⟨rfl, rfl⟩)
    | (go_at_call 96; refine (tz_calls _ ?_).mono ?_; (case _ => exact HDB.out); rintro e w' ⟨rfl, rfl⟩))
  go_loopw [1, 13] (fun vu vi wr => FbRel w.heap.size u vu vi w wr) (fun vu _ _ => (intOf vu).toNat)
  case atStart => exact ⟨14, u, 65, [], rfl, rfl, by omega, by omega, by omega, by omega, rfl, Row65.new w, below_alloc (Below.refl _ _) _⟩
  case round =>
    obtain ⟨f, v, i, acc, rfl, rfl, hv, hi, hi2, hf, hL, hR, hB⟩ := hrel
    have hv64 : v < 18446744073709551616 := by
      have : (16 : Nat) ^ (f + 1) ≤ 16 ^ 15 := Nat.pow_le_pow_right (by omega) (by omega)
      omega
    obtain ⟨c, hc, hfz⟩ := hR.cell (i - 1) (by omega)
    obtain ⟨j, rfl⟩ : ∃ j, i = j + 1 := ⟨i - 1, by omega⟩
    rw [Nat.add_sub_cancel] at hc hfz
    have hd16 : v % 16 < 16 := Nat.mod_lt _ (by omega)
    have hij : ((j + 1 : Nat) : Int) - 1 = (j : Int) := by omega
    have hjn : ((j : Int)).toNat = j := rfl
    have HV := Aside0.mk hv
    have HL := Aside0.mk hL
    have HR := Aside0.mk hR
    have HB := Aside0.mk hB
    clear hv hL hR hB
    by_cases h16 : 16 ≤ v
    · have h16b : decide ((v : Int) ≥ 16) = true := by simp; omega
      have hdg := dig36 (v % 16) (by omega)
      have hand := fb_and v hv64
      go_wp2
      go_roundw
      case rel =>
        have hf1 : 1 ≤ f := by
          have := HV.out
          cases f with
          | zero => omega
          | succ f => omega
        refine ⟨f - 1, v / 16, j, hexD (v % 16) :: acc, by push_cast; rfl, rfl, ?_, by omega, by omega, by omega, ?_, HR.out.put _, HB.out.setCell (p := ⟨w.heap.size, j, none⟩) (Nat.le_refl _) _⟩
        · have := HV.out
          cases f with
          | zero => omega
          | succ f => rw [Nat.pow_succ] at this; simp only [Nat.add_sub_cancel]; omega
        · rw [← HL.out]
          cases f with
          | zero => have := HV.out; omega
          | succ f => simp only [Nat.add_sub_cancel, hexL]; rw [if_pos h16]
      case measure => simp [intOf]; omega
    · have h16b : decide ((v : Int) ≥ 16) = false := by simp; omega
      have hdg := dig36 v (by omega)
      have hsl := sl65 w.heap.size j (by omega)
      have hcv := (HR.out.put (hexD v)).read (65 - j)
      go_wp2
      go_ret2
      have e : hexD v :: acc = hexL 14 u [] := by
        rw [← HL.out]
        cases f with
        | zero => simp only [hexL]; rw [Nat.mod_eq_of_lt (by omega)]
        | succ f => simp only [hexL]; rw [if_neg h16]
      exact ⟨by rw [e]; rfl, HB.out.setCell (p := ⟨w.heap.size, j, none⟩) (Nat.le_refl _) _⟩
set_option maxRecDepth 100000 in
set_option maxHeartbeats 1000000 in
theorem formatInt16_calls (u : Nat) (hu : u < 2147483648) (w : World) (hdb : w.cell? ⟨4, 15, none⟩ = some (.int .u8 4)) :
    Calls Tryd.prog 87 #[.int .i64 (u : Int), .int .i64 16] w fun e w' => e = .returned (.string ⟨(hexL 14 u []).toArray⟩) ∧ Below w.heap.size w w' := by
  have HDB := Aside0.mk hdb
  clear hdb
  go_enter Tryd.func87, Tryd.ntmps87
  go_wp2_with (go_at_call 91; refine (formatBits_calls _ hu _ HDB.out).mono ?_; rintro e w' ⟨rfl, hb⟩)
  go_ret
  exact ⟨rfl, hb⟩
set_option maxRecDepth 100000 in
set_option maxHeartbeats 1000000 in
theorem formatInt16p_calls (u : Nat) (hu : u < 2147483648) (w : World) (hdb : w.cell? ⟨4, 15, none⟩ = some (.int .u8 4)) :
    Calls Tryd.prog 80 #[.int .i64 (u : Int), .int .i64 16] w fun e w' => e = .returned (.string ⟨(hexL 14 u []).toArray⟩) ∧ Below w.heap.size w w' := by
  have HDB := Aside0.mk hdb
  clear hdb
  go_enter Tryd.func80, Tryd.ntmps80
  go_wp2_with (go_at_call 87; refine (formatInt16_calls _ hu _ HDB.out).mono ?_; rintro e w' ⟨rfl, hb⟩)
  go_ret
  exact ⟨rfl, hb⟩
def text_hex.f (n : Int) : Option ByteArray := if 0 ≤ n ∧ n < 2147483648 then some ⟨(hexL 14 n.toNat []).toArray⟩ else none
set_option maxRecDepth 100000 in
theorem text_hex.calls (a0 : Int) (r : ByteArray) (w : World) (hgw : GW w) (h : text_hex.f a0 = some r) :
    Calls Tryd.prog 68 #[.int .i32 a0] w fun e w' => e = .returned (.string r) ∧ Below w.heap.size w w' := by
  unfold text_hex.f at h
  split at h
  case isFalse => cases h
  rename_i hs
  have HP := Aside0.mk (Option.some.inj h)
  obtain ⟨u, rfl⟩ := Int.eq_ofNat_of_zero_le hs.1
  have hu : u < 2147483648 := by omega
  have HDB := Aside0.mk (hgw.db 15 (by decide))
  clear h hs hgw
  go_enter Tryd.func68, Tryd.ntmps68
  go_wp2_with (go_at_call 80; refine (formatInt16p_calls u hu _ HDB.out).mono ?_; rintro e w' ⟨rfl, hb⟩)
  go_ret
  exact ⟨by rw [← HP.out]; rfl, hb⟩
end Go.Proofs.YtphmgaijkdflnaaDoor.H
end
section
namespace Go.Proofs.YtphmgaijkdflnaaDoor.H
open Go.RowKit Go.Proofs.YtphmgaijkdflnaaDoorW.PrintWords Go.Proofs.YtphmgaijkdflnaaDoorW.PrintLast Go.Proofs.YtphmgaijkdflnaaDoorW.PrintMore
open Go.Maps
set_option linter.unusedVariables false
set_option linter.unusedSimpArgs false
def Bd (g : Nat) (acc : List UInt8) (w : World) : Prop := Lib.IsBuilderF 69 5 g g (Lib.byteCells acc) w
theorem Bd.new (w : World) : Bd w.heap.size [] (w.alloc (.cells #[.pointer none, .slice none 0 0] 69)) := .of (Lib.fresh_isBuilder _ _ w)
theorem Bd.lt {g : Nat} {acc : List UInt8} {w : World} (h : Bd g acc w) : g < w.heap.size := by
  rcases h with h | h
  · exact h.lt
  · exact h.lt
theorem bat_below {T e : TypeId} {B b : Nat} {p : Value} {bs : List Value} {w W : World} (h : Lib.BuilderAtF T e B b p bs w) (hb : Below w.heap.size w W) : Lib.BuilderAtF T e B b p bs W := by
  obtain ⟨hB, v, hbk, hown, hne⟩ := h
  exact ⟨hB, v, blk_below hbk hb, hown.kept (grown_of_below hb none) (by cases v.ownBlock <;> simp), hne⟩
theorem Bd.below {g : Nat} {acc : List UInt8} {w W : World} (h : Bd g acc w) (hb : Below w.heap.size w W) : Bd g acc W := by
  rcases h with h | h
  · exact .inl (bat_below h hb)
  · exact .inr (bat_below h hb)
theorem Bd.alloc {g : Nat} {acc : List UInt8} {w : World} (h : Bd g acc w) (o : Obj) : Bd g acc (w.alloc o) := h.below (below_alloc (Below.refl _ _) o)
theorem Bd.drewN {g : Nat} {acc : List UInt8} {w : World} (h : Bd g acc w) (n : Nat) : Bd g acc (w.drewN n) := h.below (pw_below_drewN (Below.refl _ _) n)
theorem Bd.write {g : Nat} {acc : List UInt8} {w : World} (h : Bd g acc w) (s : ByteArray) (hlen : acc.length + s.size ≤ 140737488355328) :
    Calls Tryd.prog 45 #[.pointer (some ⟨g, 0, none⟩), .string s] w fun e w' => e = .returned (.tuple #[.int .i64 s.size, .nilIface]) ∧ Bd g (acc ++ s.data.toList) w' ∧ Below g w w' ∧ Lib.OthersKept 5 (some g) w w' := by
  refine (Any.Builder_WriteString_k Tryd.ly166 Tryd.bx g g _ s w h (by rw [Lib.byteCells_length]; exact hlen) (Nat.le_of_lt h.lt)).mono ?_
  rintro e w' ⟨rfl, h1, h2, h3⟩
  refine ⟨rfl, ?_, h2, h3⟩
  unfold Bd
  rw [Lib.byteCells_append]
  exact Or.inr h1
theorem Bd.string {g : Nat} {acc : List UInt8} {w : World} (h : Bd g acc w) :
    Calls Tryd.prog 46 #[.pointer (some ⟨g, 0, none⟩)] w fun e w' => e = .returned (.string ⟨acc.toArray⟩) ∧ Below g w w' := by
  refine (Any.Builder_String_any_k Tryd.ly169 Tryd.bx g g acc w h (Nat.le_of_lt h.lt)).mono ?_
  rintro e w' ⟨rfl, _, h2, _⟩
  exact ⟨rfl, h2⟩
theorem keep_blk {g k : Nat} {w W : World} {c : Array Value} {T : TypeId} {fz : Nat × Nat} (h : Lib.OthersKept 5 (some g) w W) (hk : w.heap[k]? = some (.cells c T fz)) (hne : k ≠ g) (hT : T ≠ 5) : W.heap[k]? = some (.cells c T fz) :=
  h k _ hk (by simpa using hne) (fun c' fz' e => hT (by injection e))
theorem Bd.byte {g : Nat} {acc : List UInt8} {w : World} (h : Bd g acc w) (c : UInt8) (hlen : acc.length + 1 ≤ 140737488355328) :
    Calls Tryd.prog 66 #[.pointer (some ⟨g, 0, none⟩), .int .u8 c.toNat] w fun e w' => e = .returned .nilIface ∧ Bd g (acc ++ [c]) w' ∧ Below g w w' ∧ Lib.OthersKept 5 (some g) w w' := by
  refine (Any.Builder_WriteByte_k Tryd.ly167 Tryd.bx g g _ c.toNat w h (by rw [Lib.byteCells_length]; exact hlen) (Nat.le_of_lt h.lt)).mono ?_
  rintro e w' ⟨rfl, h1, h2, h3⟩
  refine ⟨rfl, ?_, h2, h3⟩
  unfold Bd
  rw [Lib.byteCells_append]
  exact Or.inr h1
end Go.Proofs.YtphmgaijkdflnaaDoor.H
end
section
namespace Go.Proofs.YtphmgaijkdflnaaDoor.H
open Go.RowKit Go.Proofs.YtphmgaijkdflnaaDoorW.PrintWords Go.Proofs.YtphmgaijkdflnaaDoorW.PrintLast Go.Proofs.YtphmgaijkdflnaaDoorW.PrintMore
open Go.Maps
set_option linter.unusedVariables false
set_option linter.unusedSimpArgs false
def escOf (s : ByteArray) (x : S87) : List UInt8 :=
  if x.f0 = 65533 ∧ x.f2 = 1 then [92, 120, 123] ++ hexL 14 (s.get! x.f1.toNat).toNat [] ++ [125]
  else if x.f0 = 10 then [92, 110] else if x.f0 = 13 then [92, 114] else if x.f0 = 9 then [92, 116]
  else if x.f0 = 34 ∨ x.f0 = 92 then [92, x.f0.toNat.toUInt8]
  else if x.f0 < 32 ∨ x.f0 > 126 then [92, 117, 123] ++ hexL 14 x.f0.toNat [] ++ [125]
  else [x.f0.toNat.toUInt8]
def quoteB (s : ByteArray) (rs : List S87) : List UInt8 := 34 :: rs.flatMap (escOf s)
def text_Quote.f (a0 : ByteArray) : Option ByteArray := if a0.size ≤ 4398046511104 then some (⟨(quoteB a0 (runesL a0)).toArray⟩ ++ ⟨#[34]⟩) else none
theorem hexL_len (f : Nat) : ∀ u acc, (hexL f u acc).length ≤ f + 1 + acc.length := by
  induction f with
  | zero => intro u acc; simp [hexL]; omega
  | succ f ih =>
    intro u acc
    simp only [hexL]
    split
    · have := ih (u / 16) (hexD (u % 16) :: acc); simp at this; omega
    · simp; omega
theorem escOf_len (s : ByteArray) (x : S87) : (escOf s x).length ≤ 20 := by
  have h1 := hexL_len 14 (s.get! x.f1.toNat).toNat []
  have h2 := hexL_len 14 x.f0.toNat []
  simp only [List.length_nil] at h1 h2
  unfold escOf
  repeat' split
  all_goals simp
  all_goals omega
theorem flatMap_esc_len (s : ByteArray) (rs : List S87) : (rs.flatMap (escOf s)).length ≤ 20 * rs.length := by
  induction rs with
  | nil => simp
  | cons x r ih => have := escOf_len s x; simp only [List.flatMap_cons, List.length_append, List.length_cons]; omega
theorem runesFrom_mem (s : ByteArray) (f : Nat) : ∀ pos, ∀ x ∈ runesFrom s f pos, (0 ≤ x.f0 ∧ x.f0 ≤ 1114111) ∧ 0 ≤ x.f1 ∧ x.f1 < s.size := by
  induction f with
  | zero => intro pos x hx; simp [runesFrom] at hx
  | succ f ih =>
    intro pos x hx
    simp only [runesFrom] at hx
    split at hx
    · rename_i hp
      rcases List.mem_cons.1 hx with rfl | hx
      · have := Lib.rune_le s pos
        exact ⟨⟨by simp, by simp; omega⟩, by simp, by simp; omega⟩
      · exact ih _ x hx
    · simp at hx
theorem runesFrom_len (s : ByteArray) (f : Nat) : ∀ pos, (runesFrom s f pos).length ≤ s.size - pos := by
  induction f with
  | zero => intro pos; simp [runesFrom]
  | succ f ih =>
    intro pos
    simp only [runesFrom]
    split
    · have := ih (pos + (Utf8.decode s pos).2); have := rune_w_pos s pos; simp only [List.length_cons]; omega
    · simp
theorem R_others {α : Type} {d : Kd α} {e base g : Nat} {ok : Nat → Prop} {w W : World} {v : Value} {xs : List α} (h : d.R e w base ok v xs) (hE : d.E = []) (hk : Lib.OthersKept 5 (some g) w W) (hne : e ≠ 5) (hg : g < base) : d.R e W base ok v xs :=
  Kd.R_mono (Kd.R_step (Kd.R_bound h) (fun k hk1 _ => by
    obtain ⟨_, h2, _, q, hq, cs, hc⟩ := hk1
    rw [hE] at hq
    simp only [List.mem_singleton] at hq
    subst hq
    exact (hk k _ hc (fun e_ => by injection e_ with e_; omega) (fun c' fz' e_ => hne (by injection e_))).trans hc.symm)) (fun _ hk1 => hk1.1)
theorem hex_any (n : Int) (h0 : 0 ≤ n) (h1 : n < 2147483648) (w : World) (hgw : GW w) : Calls Tryd.prog 68 #[.int .i32 n] w fun e w' => ∃ hx : ByteArray, e = .returned (.string hx) ∧ Aside0 (hx.data.toList = hexL 14 n.toNat []) ∧ hx.size ≤ 15 ∧ Below w.heap.size w w' := by
  have h := hexL_len 14 n.toNat []
  simp only [List.length_nil] at h
  refine (text_hex.calls n ⟨(hexL 14 n.toNat []).toArray⟩ w hgw (by unfold text_hex.f; rw [if_pos ⟨h0, h1⟩])).mono ?_
  rintro e w' ⟨rfl, hb⟩
  exact ⟨_, rfl, ⟨by simp⟩, by simp [ByteArray.size]; omega, hb⟩
theorem write_len {acc : List UInt8} {s : ByteArray} (h : acc.length ≤ 140737488355000) (hs : s.size ≤ 100) : acc.length + s.size ≤ 140737488355328 := by omega
def QRel (s : ByteArray) (rs : List S87) (w : World) (v vi : Value) (wr : World) : Prop :=
  ∃ k : Nat, k ≤ rs.length ∧ vi = .int .i64 (k : Int) ∧ Bd w.heap.size (quoteB s (rs.take k)) wr ∧ Below w.heap.size w wr ∧ Kd.R k87 87 wr (w.heap.size + 1) (fun _ => True) v rs
theorem QRel.next {s : ByteArray} {rs : List S87} {w W : World} {v : Value} {k : Nat} (hk : k < rs.length) {acc : List UInt8} (hb : Bd w.heap.size acc W) (he : acc = quoteB s (rs.take k) ++ escOf s (rs[k])) (hB : Below w.heap.size w W)
    (hR : Kd.R k87 87 W (w.heap.size + 1) (fun _ => True) v rs) : QRel s rs w v (.int .i64 ((k : Int) + 1)) W := by
  refine ⟨k + 1, hk, by push_cast; rfl, ?_, hB, hR⟩
  rw [he] at hb
  rw [List.take_succ_eq_append_getElem hk]
  have e : quoteB s (rs.take k ++ [rs[k]]) = quoteB s (rs.take k) ++ escOf s rs[k] := by
    unfold quoteB
    rw [List.flatMap_append]
    simp only [List.flatMap_cons, List.flatMap_nil, List.append_nil, List.cons_append]
  rw [e]
  exact hb
set_option maxRecDepth 100000 in
set_option maxHeartbeats 8000000 in
theorem text_Quote.calls (a0 : ByteArray) (r : ByteArray) (w : World) (hgw : GW w) (h : text_Quote.f a0 = some r) :
    Calls Tryd.prog 44 #[.string a0] w fun e w' => e = .returned (.string r) ∧ Below w.heap.size w w' := by
  unfold text_Quote.f at h
  split at h
  case isFalse => cases h
  rename_i hs
  have HP := Aside0.mk (Option.some.inj h)
  have HS := Aside0.mk hs
  have HGW := Aside0.mk hgw
  have HRF := Aside0.mk (show text_Runes.f a0 = some (runesL a0) by unfold text_Runes.f; rw [if_pos hs])
  have HRL := Aside0.mk (show (runesL a0).length ≤ 4398046511104 from Nat.le_trans (runesFrom_len a0 a0.size 0) (by omega))
  have HRM := Aside0.mk (fun x hx => runesFrom_mem a0 a0.size 0 x hx : ∀ x ∈ runesL a0, (0 ≤ x.f0 ∧ x.f0 ≤ 1114111) ∧ 0 ≤ x.f1 ∧ x.f1 < a0.size)
  have HB0 := Aside0.mk (Bd.new w)
  clear h hs hgw
  obtain ⟨rs, hrs⟩ : ∃ rs, runesL a0 = rs := ⟨_, rfl⟩
  rw [hrs] at HP HRF HRL HRM
  clear hrs
  go_enter Tryd.func44, Tryd.ntmps44
  go_wp2_with (first
    | (go_at_call 66; refine (HB0.out.byte 34 (by simp)).mono ?_; rintro e w1 ⟨rfl, hb1, hB1, hO1⟩; have HB1 := Aside0.mk hb1; have HL1 := Aside0.mk ((below_alloc (Below.refl w.heap.size w) _).trans hB1); clear hb1 hB1 hO1)
    | (go_at_call 67; refine (text_Runes.calls a0 rs _ (HGW.out.below HL1.out) HRF.out).mono ?_; rintro e w2 ⟨v, rfl, hR, hb⟩; obtain ⟨A, c, rfl⟩ := Kd.R_slice hR; have HB2 := Aside0.mk (HB1.out.below hb); have HR2 := Aside0.mk (Kd.R_lower hR (show w.heap.size + 1 ≤ w1.heap.size from HB1.out.lt)); have HL2 := Aside0.mk (below_step HL1.out hb); clear hR hb))
  go_loopw [10] (fun v10 wr => QRel a0 rs w (.slice A rs.length c) v10 wr) (fun v10 _ => rs.length - (intOf v10).toNat)
  case atStart => exact ⟨0, Nat.zero_le _, rfl, HB2.out, HL2.out, HR2.out⟩
  case round =>
    obtain ⟨k, hk, rfl, hb, hB, hR⟩ := hrel
    have hn := HRL.out
    by_cases hlt : k < rs.length
    · have hm := HRM.out _ (List.getElem_mem hlt)
      obtain ⟨ad, hA, hx0, hx1, hx2⟩ := at_T87 (Kd.R_reads' hR).2.2 (k : Int) (by omega) (by omega)
      have hrd : rd_T87 rs (k : Int) = rs[k] := by simp [rd_T87, List.getD_eq_getElem?_getD, List.getElem?_eq_getElem hlt]
      rw [hrd] at hx0 hx1 hx2
      simp only [Int.toNat_natCast] at hx0 hx1 hx2
      cases hA
      obtain ⟨⟨f0, f1, f2⟩, hx⟩ : ∃ x, rs[k] = x := ⟨_, rfl⟩
      rw [hx] at hx0 hx1 hx2 hm
      dsimp only at hx0 hx1 hx2 hm
      obtain ⟨⟨m0, m1⟩, m2, m3⟩ := hm
      have HX := Aside0.mk hx
      have HB := Aside0.mk hb
      have HL := Aside0.mk hB
      have HR := Aside0.mk hR
      have hq : (quoteB a0 (rs.take k)).length ≤ 140737488355000 := by
        have h1 := flatMap_esc_len a0 (rs.take k)
        have h2 : (rs.take k).length ≤ k := List.length_take_le _ _
        simp only [quoteB, List.length_cons]; omega
      have HQ := Aside0.mk hq
      clear hx hb hB hR hrd hq
      by_cases t1 : f0 = 65533
      · subst t1
        by_cases t2 : f2 = 1
        · subst t2
          have hby : (a0.get! f1.toNat) = a0[f1.toNat]'(by omega) := get_at a0 f1.toNat (by omega)
          have HBY := Aside0.mk hby
          obtain ⟨c8, hc8⟩ : ∃ c8 : UInt8, (a0[f1.toNat]'(by omega)) = c8 := ⟨_, rfl⟩
          rw [hc8] at HBY
          have hc8' : ∀ h, a0[f1.toNat]'h = c8 := fun _ => hc8
          clear hc8 hby
          have h8 := c8.toNat_lt
          have hwb : wrap32 (c8.toNat : Int) = (c8.toNat : Int) := by unfold wrap32; omega
          go_wp2_with (first
            | (go_at_call 68; refine (hex_any _ ?h1 ?h2 _ ?h3).mono ?_; (case h1 => omega); (case h2 => omega); (case h3 => exact HGW.out.below (below_alloc HL.out _)); rintro e w1 ⟨hx, rfl, HX1, hx2, hb1⟩; have HB1 := Aside0.mk ((HB.out.alloc _).below hb1); have HL1 := Aside0.mk (below_step (below_alloc HL.out _) hb1); have HR1 := Aside0.mk (Kd.R_below (Kd.R_alloc HR.out _) hb1); clear hb1; have hz1 : (9223372036854775807 < 3 + hx.size) = False := eq_false (by omega); have hz2 : (9223372036854775807 < 3 + hx.size + 1) = False := eq_false (by omega))
            | (go_at_call 45; refine (Bd.write HB1.out _ ?h4).mono ?_; (case h4 => exact write_len HQ.out (by first | decide | (simp only [ByteArray.size_append]; show 3 + hx.size + 1 ≤ 100; omega))); rintro e w2 ⟨rfl, hb2, hB2, hO2⟩; have HB2 := Aside0.mk hb2; have HL2 := Aside0.mk (HL1.out.trans hB2); have HR2 := Aside0.mk (R_others HR1.out rfl hO2 (by decide) (Nat.lt_succ_self _)); clear hb2 hB2 hO2))
          go_roundw
          case rel => exact QRel.next hlt HB2.out (by rw [HX.out]; simp [escOf, HX1.out, HBY.out]) HL2.out HR2.out
          case measure => simp [intOf]; omega
        · have t2b : (f2 == 1) = false := by simpa using t2
          go_wp2_with (first
            | (go_at_call 68; refine (hex_any _ ?h1 ?h2 _ ?h3).mono ?_; (case h1 => omega); (case h2 => omega); (case h3 => exact HGW.out.below (below_alloc HL.out _)); rintro e w1 ⟨hx, rfl, HX1, hx2, hb1⟩; have HB1 := Aside0.mk ((HB.out.alloc _).below hb1); have HL1 := Aside0.mk (below_step (below_alloc HL.out _) hb1); have HR1 := Aside0.mk (Kd.R_below (Kd.R_alloc HR.out _) hb1); clear hb1; have hz1 : (9223372036854775807 < 3 + hx.size) = False := eq_false (by omega); have hz2 : (9223372036854775807 < 3 + hx.size + 1) = False := eq_false (by omega))
            | (go_at_call 45; refine (Bd.write HB1.out _ ?h4).mono ?_; (case h4 => exact write_len HQ.out (by first | decide | (simp only [ByteArray.size_append]; show 3 + hx.size + 1 ≤ 100; omega))); rintro e w2 ⟨rfl, hb2, hB2, hO2⟩; have HB2 := Aside0.mk hb2; have HL2 := Aside0.mk (HL1.out.trans hB2); have HR2 := Aside0.mk (R_others HR1.out rfl hO2 (by decide) (Nat.lt_succ_self _)); clear hb2 hB2 hO2))
          go_roundw
          case rel => exact QRel.next hlt HB2.out (by rw [HX.out]; simp [escOf, HX1.out, t2]) HL2.out HR2.out
          case measure => simp [intOf]; omega
      have t1b : (f0 == 65533) = false := by simpa using t1
      by_cases t10 : f0 = 10
      · subst t10
        go_wp2_with (first
          | (go_at_call 45; refine (Bd.write (HB.out.alloc _) _ ?h4).mono ?_; (case h4 => exact write_len HQ.out (by first | decide | (simp only [ByteArray.size_append]; show 3 + hx.size + 1 ≤ 100; omega))); rintro e w1 ⟨rfl, hb1, hB1, hO1⟩; have HB1 := Aside0.mk hb1; have HL1 := Aside0.mk ((below_alloc HL.out _).trans hB1); have HR1 := Aside0.mk (R_others (Kd.R_alloc HR.out _) rfl hO1 (by decide) (Nat.lt_succ_self _)); clear hb1 hB1 hO1))
        go_roundw
        case rel => exact QRel.next hlt HB1.out (by rw [HX.out]; simp [escOf]) HL1.out HR1.out
        case measure => simp [intOf]; omega
      have t10b : (f0 == 10) = false := by simpa using t10
      by_cases t13 : f0 = 13
      · subst t13
        go_wp2_with (first
          | (go_at_call 45; refine (Bd.write (HB.out.alloc _) _ ?h4).mono ?_; (case h4 => exact write_len HQ.out (by first | decide | (simp only [ByteArray.size_append]; show 3 + hx.size + 1 ≤ 100; omega))); rintro e w1 ⟨rfl, hb1, hB1, hO1⟩; have HB1 := Aside0.mk hb1; have HL1 := Aside0.mk ((below_alloc HL.out _).trans hB1); have HR1 := Aside0.mk (R_others (Kd.R_alloc HR.out _) rfl hO1 (by decide) (Nat.lt_succ_self _)); clear hb1 hB1 hO1))
        go_roundw
        case rel => exact QRel.next hlt HB1.out (by rw [HX.out]; simp [escOf]) HL1.out HR1.out
        case measure => simp [intOf]; omega
      have t13b : (f0 == 13) = false := by simpa using t13
      by_cases t9 : f0 = 9
      · subst t9
        go_wp2_with (first
          | (go_at_call 45; refine (Bd.write (HB.out.alloc _) _ ?h4).mono ?_; (case h4 => exact write_len HQ.out (by first | decide | (simp only [ByteArray.size_append]; show 3 + hx.size + 1 ≤ 100; omega))); rintro e w1 ⟨rfl, hb1, hB1, hO1⟩; have HB1 := Aside0.mk hb1; have HL1 := Aside0.mk ((below_alloc HL.out _).trans hB1); have HR1 := Aside0.mk (R_others (Kd.R_alloc HR.out _) rfl hO1 (by decide) (Nat.lt_succ_self _)); clear hb1 hB1 hO1))
        go_roundw
        case rel => exact QRel.next hlt HB1.out (by rw [HX.out]; simp [escOf]) HL1.out HR1.out
        case measure => simp [intOf]; omega
      have t9b : (f0 == 9) = false := by simpa using t9
      by_cases t34 : f0 = 34
      · subst t34
        have tk0 : True := trivial
        go_wp2_with (first
          | (have _u := tk0; clear tk0; go_at_call 66; refine (Bd.byte (HB.out.alloc _) 92 ?h4).mono ?_; (case h4 => have := HQ.out; first | omega | (simp only [List.length_append, List.length_cons, List.length_nil]; omega)); rintro e w1 ⟨rfl, hb1, hB1, hO1⟩; have hOx := Aside0.mk hO1; have HB1 := Aside0.mk hb1; have HL1 := Aside0.mk ((below_alloc HL.out _).trans hB1); have HR1 := Aside0.mk (R_others (Kd.R_alloc HR.out _) rfl hO1 (by decide) (Nat.lt_succ_self _)); clear hb1 hB1 hO1; have hcz := keep_blk (g := w.heap.size) hOx.out (blk_new wr _) (by have := HB.out.lt; omega) (by decide); have hcz0 := (blk_cell hcz 0).trans rfl; have hcz2 := (blk_cell hcz 2).trans rfl; clear hcz)
          | (have _u := hOx; go_at_call 66; refine (Bd.byte HB1.out 34 ?h5).mono ?_; (case h5 => have := HQ.out; first | omega | (simp only [List.length_append, List.length_cons, List.length_nil]; omega)); rintro e w2 ⟨rfl, hb2, hB2, hO2⟩; have HB2 := Aside0.mk hb2; have HL2 := Aside0.mk (HL1.out.trans hB2); have HR2 := Aside0.mk (R_others HR1.out rfl hO2 (by decide) (Nat.lt_succ_self _)); clear hb2 hB2 hO2; clear hOx))
        go_roundw
        case rel => exact QRel.next hlt HB2.out (by rw [HX.out]; simp [escOf]) HL2.out HR2.out
        case measure => simp [intOf]; omega
      have t34b : (f0 == 34) = false := by simpa using t34
      by_cases t92 : f0 = 92
      · subst t92
        have tk0 : True := trivial
        go_wp2_with (first
          | (have _u := tk0; clear tk0; go_at_call 66; refine (Bd.byte (HB.out.alloc _) 92 ?h4).mono ?_; (case h4 => have := HQ.out; first | omega | (simp only [List.length_append, List.length_cons, List.length_nil]; omega)); rintro e w1 ⟨rfl, hb1, hB1, hO1⟩; have hOx := Aside0.mk hO1; have HB1 := Aside0.mk hb1; have HL1 := Aside0.mk ((below_alloc HL.out _).trans hB1); have HR1 := Aside0.mk (R_others (Kd.R_alloc HR.out _) rfl hO1 (by decide) (Nat.lt_succ_self _)); clear hb1 hB1 hO1; have hcz := keep_blk (g := w.heap.size) hOx.out (blk_new wr _) (by have := HB.out.lt; omega) (by decide); have hcz0 := (blk_cell hcz 0).trans rfl; have hcz2 := (blk_cell hcz 2).trans rfl; clear hcz)
          | (have _u := hOx; go_at_call 66; refine (Bd.byte HB1.out 92 ?h5).mono ?_; (case h5 => have := HQ.out; first | omega | (simp only [List.length_append, List.length_cons, List.length_nil]; omega)); rintro e w2 ⟨rfl, hb2, hB2, hO2⟩; have HB2 := Aside0.mk hb2; have HL2 := Aside0.mk (HL1.out.trans hB2); have HR2 := Aside0.mk (R_others HR1.out rfl hO2 (by decide) (Nat.lt_succ_self _)); clear hb2 hB2 hO2; clear hOx))
        go_roundw
        case rel => exact QRel.next hlt HB2.out (by rw [HX.out]; simp [escOf]) HL2.out HR2.out
        case measure => simp [intOf]; omega
      have t92b : (f0 == 92) = false := by simpa using t92
      by_cases l32 : f0 < 32
      · have d1 : decide (f0 < 32) = true := by simpa using l32
        go_wp2_with (first
          | (go_at_call 68; refine (hex_any _ ?h1 ?h2 _ ?h3).mono ?_; (case h1 => omega); (case h2 => omega); (case h3 => exact HGW.out.below (below_alloc HL.out _)); rintro e w1 ⟨hx, rfl, HX1, hx2, hb1⟩; have HB1 := Aside0.mk ((HB.out.alloc _).below hb1); have HL1 := Aside0.mk (below_step (below_alloc HL.out _) hb1); have HR1 := Aside0.mk (Kd.R_below (Kd.R_alloc HR.out _) hb1); clear hb1; have hz1 : (9223372036854775807 < 3 + hx.size) = False := eq_false (by omega); have hz2 : (9223372036854775807 < 3 + hx.size + 1) = False := eq_false (by omega))
          | (go_at_call 45; refine (Bd.write HB1.out _ ?h4).mono ?_; (case h4 => exact write_len HQ.out (by first | decide | (simp only [ByteArray.size_append]; show 3 + hx.size + 1 ≤ 100; omega))); rintro e w2 ⟨rfl, hb2, hB2, hO2⟩; have HB2 := Aside0.mk hb2; have HL2 := Aside0.mk (HL1.out.trans hB2); have HR2 := Aside0.mk (R_others HR1.out rfl hO2 (by decide) (Nat.lt_succ_self _)); clear hb2 hB2 hO2))
        go_roundw
        case rel => exact QRel.next hlt HB2.out (by rw [HX.out]; rw [escOf, if_neg (by simp [t1]), if_neg t10, if_neg t13, if_neg t9, if_neg (by simp [t34, t92]), if_pos (by simp; omega)]; simp [HX1.out]) HL2.out HR2.out
        case measure => simp [intOf]; omega
      by_cases g126 : f0 > 126
      · have d1 : decide (f0 < 32) = false := by simp; omega
        have d2 : decide (f0 > 126) = true := by simp; omega
        go_wp2_with (first
          | (go_at_call 68; refine (hex_any _ ?h1 ?h2 _ ?h3).mono ?_; (case h1 => omega); (case h2 => omega); (case h3 => exact HGW.out.below (below_alloc HL.out _)); rintro e w1 ⟨hx, rfl, HX1, hx2, hb1⟩; have HB1 := Aside0.mk ((HB.out.alloc _).below hb1); have HL1 := Aside0.mk (below_step (below_alloc HL.out _) hb1); have HR1 := Aside0.mk (Kd.R_below (Kd.R_alloc HR.out _) hb1); clear hb1; have hz1 : (9223372036854775807 < 3 + hx.size) = False := eq_false (by omega); have hz2 : (9223372036854775807 < 3 + hx.size + 1) = False := eq_false (by omega))
          | (go_at_call 45; refine (Bd.write HB1.out _ ?h4).mono ?_; (case h4 => exact write_len HQ.out (by first | decide | (simp only [ByteArray.size_append]; show 3 + hx.size + 1 ≤ 100; omega))); rintro e w2 ⟨rfl, hb2, hB2, hO2⟩; have HB2 := Aside0.mk hb2; have HL2 := Aside0.mk (HL1.out.trans hB2); have HR2 := Aside0.mk (R_others HR1.out rfl hO2 (by decide) (Nat.lt_succ_self _)); clear hb2 hB2 hO2))
        go_roundw
        case rel => exact QRel.next hlt HB2.out (by rw [HX.out]; rw [escOf, if_neg (by simp [t1]), if_neg t10, if_neg t13, if_neg t9, if_neg (by simp [t34, t92]), if_pos (by simp; omega)]; simp [HX1.out]) HL2.out HR2.out
        case measure => simp [intOf]; omega
      have d1 : decide (f0 < 32) = false := by simp; omega
      have d2 : decide (f0 > 126) = false := by simp; omega
      have h8 : f0 % 256 = f0 := by omega
      obtain ⟨c8, rfl⟩ : ∃ c8 : UInt8, f0 = (c8.toNat : Int) := ⟨f0.toNat.toUInt8, by simp [Nat.toUInt8]; omega⟩
      go_wp2_with (first
        | (go_at_call 66; refine (Bd.byte (HB.out.alloc _) c8 ?h4).mono ?_; (case h4 => have := HQ.out; first | omega | (simp only [List.length_append, List.length_cons, List.length_nil]; omega)); rintro e w1 ⟨rfl, hb1, hB1, hO1⟩; have HB1 := Aside0.mk hb1; have HL1 := Aside0.mk ((below_alloc HL.out _).trans hB1); have HR1 := Aside0.mk (R_others (Kd.R_alloc HR.out _) rfl hO1 (by decide) (Nat.lt_succ_self _)); clear hb1 hB1 hO1))
      go_roundw
      case rel => exact QRel.next hlt HB1.out (by rw [HX.out]; rw [escOf, if_neg (by simp [t1]), if_neg t10, if_neg t13, if_neg t9, if_neg (by simp [t34, t92]), if_neg (by simp; omega)]; simp) HL1.out HR1.out
      case measure => simp [intOf]; omega
    · have hke : k = rs.length := by omega
      subst hke
      rw [List.take_of_length_le (Nat.le_refl _)] at hb
      have HB := Aside0.mk hb
      have HL := Aside0.mk hB
      clear hb hB hR
      have hq : ((⟨(quoteB a0 rs).toArray⟩ : ByteArray)).size ≤ 140737488355000 := by
        have h1 := flatMap_esc_len a0 rs
        simp only [quoteB, ByteArray.size, List.size_toArray, List.length_cons]; omega
      have hq2 : (9223372036854775807 < ((⟨(quoteB a0 rs).toArray⟩ : ByteArray)).size + 1) = False := by simp; omega
      have hq3 : (9223372036854775807 < (quoteB a0 rs).length + 1) = False := eq_false (by have := hq; simp only [ByteArray.size, List.size_toArray] at this; omega)
      go_wp2_with (go_at_call 46; refine (HB.out.string).mono ?_; rintro e w3 ⟨rfl, hB3⟩; have HL3 := Aside0.mk (HL.out.trans hB3); clear hB3)
      go_ret
      exact ⟨by rw [← HP.out]; rfl, HL3.out⟩
end Go.Proofs.YtphmgaijkdflnaaDoor.H
end
section
namespace Go.Proofs.YtphmgaijkdflnaaDoor.H
open Go.RowKit Go.Shelf Go.Proofs.YtphmgaijkdflnaaDoorW.PrintWords Go.Proofs.YtphmgaijkdflnaaDoorW.PrintLast Go.Proofs.YtphmgaijkdflnaaDoorW.PrintMore
open Go.Maps
set_option linter.unusedVariables false
set_option linter.unusedSimpArgs false
def bput (acc : List UInt8) (s : ByteArray) : Option (List UInt8) := if acc.length + s.size ≤ 140737488355328 then some (acc ++ s.data.toList) else none
theorem bput.some {acc o : List UInt8} {s : ByteArray} (h : bput acc s = some o) : acc.length + s.size ≤ 140737488355328 ∧ o = acc ++ s.data.toList := by
  unfold bput at h
  split at h
  · rename_i q; exact ⟨q, (Option.some.inj h).symm⟩
  · cases h
section
variable (l0_0 l0_1 : List ByteArray) (l0_2 : List Int) (l0_3 : List S58) (l0_4 : List S61)
mutual
def showN : S26 → Option ByteArray
  | ⟨f0, f1, f2, f3, f4, f5, ks⟩ => if f0 = 0 then some ⟨#[36, 101, 110, 100]⟩ else (grammar_Sym.f l0_0 l0_1 l0_2 l0_3 l0_4 f0).bind fun name =>
    if 0 < f0 then (if f3 = 1 then (if name.size ≤ 140737488355327 then some ((⟨#[33]⟩ : ByteArray) ++ name) else none) else text_Quote.f f5)
    else (bput (if f3 = 2 then [40, 33] else [40]) name).bind fun a => (showL a ks).bind fun b => (bput b ⟨#[41]⟩).map fun l => ⟨l.toArray⟩
def showL : List UInt8 → List S26 → Option (List UInt8)
  | acc, [] => some acc
  | acc, k :: r => (showN k).bind fun t => (bput acc ((⟨#[32]⟩ : ByteArray) ++ t)).bind fun a => showL a r
end
theorem showN_eq (x : S26) : showN l0_0 l0_1 l0_2 l0_3 l0_4 x = if x.f0 = 0 then some ⟨#[36, 101, 110, 100]⟩ else (grammar_Sym.f l0_0 l0_1 l0_2 l0_3 l0_4 x.f0).bind fun name =>
    if 0 < x.f0 then (if x.f3 = 1 then (if name.size ≤ 140737488355327 then some ((⟨#[33]⟩ : ByteArray) ++ name) else none) else text_Quote.f x.f5)
    else (bput (if x.f3 = 2 then [40, 33] else [40]) name).bind fun a => (showL l0_0 l0_1 l0_2 l0_3 l0_4 a x.f6).bind fun b => (bput b ⟨#[41]⟩).map fun l => ⟨l.toArray⟩ := by
  cases x; simp only [showN]
def cst_Show.f (a1_0 : Int) (a1_1 : Int) (a1_2 : Int) (a1_3 : Int) (l1_4 : List S46) (a1_5 : ByteArray) (l1_6 : List S26) : Option ByteArray := showN l0_0 l0_1 l0_2 l0_3 l0_4 ⟨a1_0, a1_1, a1_2, a1_3, l1_4, a1_5, l1_6⟩
end
section
variable {w W : World} {A0 : Option Addr} {c0 : Nat} {l0_0 : List ByteArray} {A1 : Option Addr} {c1 : Nat} {l0_1 : List ByteArray} {A2 : Option Addr} {c2 : Nat} {l0_2 : List Int} {A3 : Option Addr} {c3 : Nat} {l0_3 : List S58} {A4 : Option Addr} {c4 : Nat} {l0_4 : List S61}
theorem InG.sym {s : Int} {r : ByteArray} (G : InG W A0 c0 l0_0 A1 c1 l0_1 A2 c2 l0_2 A3 c3 l0_3 A4 c4 l0_4) (h : grammar_Sym.f l0_0 l0_1 l0_2 l0_3 l0_4 s = some r) :
    Calls Tryd.prog 43 #[.agg #[.slice A0 l0_0.length c0, .slice A1 l0_1.length c1, .slice A2 l0_2.length c2, .slice A3 l0_3.length c3, .slice A4 l0_4.length c4], .int .i64 s] W fun e w' => e = .returned (.string r) ∧ Below W.heap.size W w' :=
  grammar_Sym.calls _ _ _ _ _ _ _ _ _ _ _ _ _ _ _ s r W G.r0 G.h0 G.r1 G.h1 G.r2 G.h2 G.r3 G.h3 G.r4 G.h4 h
end
theorem kc2 {w W : World} {p : Addr} {v : Value} (hb : Below w.heap.size w W) (h : w.cell? p = some v) : W.cell? p = some v := (hb.cell (World.block_lt_of_cell? w _ h)).trans h
structure SV (w : World) (A0 : Option Addr) (c0 : Nat) (l0_0 : List ByteArray) (A1 : Option Addr) (c1 : Nat) (l0_1 : List ByteArray) (A2 : Option Addr) (c2 : Nat) (l0_2 : List Int) (A3 : Option Addr) (c3 : Nat) (l0_3 : List S58) (A4 : Option Addr) (c4 : Nat) (l0_4 : List S61) (x : S26) (B4 : Option Addr) (d4 : Nat) (B6 : Option Addr) (d6 : Nat) (W : World) : Prop where
  B : Below w.heap.size w W
  g : GB W w.heap.size A0 c0 l0_0 A1 c1 l0_1 A2 c2 l0_2 A3 c3 l0_3 A4 c4 l0_4
  n : W.heap[w.heap.size + 1]? = some (.cells #[.int .i64 x.f0, .int .i64 x.f1, .int .i64 x.f2, .int .i64 x.f3, .slice B4 x.f4.length d4, .string x.f5, .slice B6 x.f6.length d6] 26 (0, 0))
section
variable {w W W' : World} {A0 : Option Addr} {c0 : Nat} {l0_0 : List ByteArray} {A1 : Option Addr} {c1 : Nat} {l0_1 : List ByteArray} {A2 : Option Addr} {c2 : Nat} {l0_2 : List Int} {A3 : Option Addr} {c3 : Nat} {l0_3 : List S58} {A4 : Option Addr} {c4 : Nat} {l0_4 : List S61} {x : S26} {B4 : Option Addr} {d4 : Nat} {B6 : Option Addr} {d6 : Nat}
theorem SV.below (h : SV w A0 c0 l0_0 A1 c1 l0_1 A2 c2 l0_2 A3 c3 l0_3 A4 c4 l0_4 x B4 d4 B6 d6 W) (hb : Below W.heap.size W W') : SV w A0 c0 l0_0 A1 c1 l0_1 A2 c2 l0_2 A3 c3 l0_3 A4 c4 l0_4 x B4 d4 B6 d6 W' :=
  ⟨h.B.trans (hb.mono h.B.size), h.g.below hb, blk_below h.n hb⟩
theorem SV.size (h : SV w A0 c0 l0_0 A1 c1 l0_1 A2 c2 l0_2 A3 c3 l0_3 A4 c4 l0_4 x B4 d4 B6 d6 W) : w.heap.size + 1 < W.heap.size := (Array.getElem?_eq_some_iff.1 h.n).1
theorem SV.write {bb : Nat} {acc : List UInt8} (h : SV w A0 c0 l0_0 A1 c1 l0_1 A2 c2 l0_2 A3 c3 l0_3 A4 c4 l0_4 x B4 d4 B6 d6 W) (hd : Bd bb acc W) (hw : w.heap.size + 1 < bb) (s : ByteArray) (hlen : acc.length + s.size ≤ 140737488355328) :
    Calls Tryd.prog 45 #[.pointer (some ⟨bb, 0, none⟩), .string s] W fun e w' => e = .returned (.tuple #[.int .i64 s.size, .nilIface]) ∧ SV w A0 c0 l0_0 A1 c1 l0_1 A2 c2 l0_2 A3 c3 l0_3 A4 c4 l0_4 x B4 d4 B6 d6 w' ∧ Bd bb (acc ++ s.data.toList) w' := by
  refine (hd.write s hlen).mono ?_
  rintro e w' ⟨rfl, hd2, hbl, hk⟩
  exact ⟨rfl, ⟨h.B.trans (hbl.mono (by omega)), (hbl.block _ (by omega)).trans h.g, (hbl.block _ hw).trans h.n⟩, hd2⟩
theorem SV.start : SV w A0 c0 l0_0 A1 c1 l0_1 A2 c2 l0_2 A3 c3 l0_3 A4 c4 l0_4 x B4 d4 B6 d6 ((w.alloc (.cells #[.slice A0 l0_0.length c0, .slice A1 l0_1.length c1, .slice A2 l0_2.length c2, .slice A3 l0_3.length c3, .slice A4 l0_4.length c4] 40)).alloc (.cells #[.int .i64 x.f0, .int .i64 x.f1, .int .i64 x.f2, .int .i64 x.f3, .slice B4 x.f4.length d4, .string x.f5, .slice B6 x.f6.length d6] 26)) := by
  refine ⟨below_alloc (below_alloc (Below.refl _ _) _) _, blk_alloc (blk_new w _) _, ?_⟩
  have := blk_new (w.alloc (.cells #[.slice A0 l0_0.length c0, .slice A1 l0_1.length c1, .slice A2 l0_2.length c2, .slice A3 l0_3.length c3, .slice A4 l0_4.length c4] 40)) (.cells #[.int .i64 x.f0, .int .i64 x.f1, .int .i64 x.f2, .int .i64 x.f3, .slice B4 x.f4.length d4, .string x.f5, .slice B6 x.f6.length d6] 26)
  simpa using this
theorem SV.cells (h : SV w A0 c0 l0_0 A1 c1 l0_1 A2 c2 l0_2 A3 c3 l0_3 A4 c4 l0_4 x B4 d4 B6 d6 W) : W.cell? ⟨w.heap.size + 1, 0, none⟩ = some (.int .i64 x.f0) ∧ W.cell? ⟨w.heap.size + 1, 3, none⟩ = some (.int .i64 x.f3) ∧ W.cell? ⟨w.heap.size + 1, 5, none⟩ = some (.string x.f5) ∧ W.cell? ⟨w.heap.size + 1, 6, none⟩ = some (.slice B6 x.f6.length d6) :=
  ⟨(blk_cell h.n 0).trans rfl, (blk_cell h.n 3).trans rfl, (blk_cell h.n 5).trans rfl, (blk_cell h.n 6).trans rfl⟩
end
set_option maxRecDepth 100000 in
set_option maxHeartbeats 4000000 in
theorem show_walk (A0 : Option Addr) (c0 : Nat) (l0_0 : List ByteArray) (A1 : Option Addr) (c1 : Nat) (l0_1 : List ByteArray) (A2 : Option Addr) (c2 : Nat) (l0_2 : List Int) (A3 : Option Addr) (c3 : Nat) (l0_3 : List S58) (A4 : Option Addr) (c4 : Nat) (l0_4 : List S61) (n : Nat) : ∀ (x : S26) (B4 : Option Addr) (d4 : Nat) (B6 : Option Addr) (d6 : Nat) (r : ByteArray) (w : World), SizeOf.sizeOf x < n → GW w → InG w A0 c0 l0_0 A1 c1 l0_1 A2 c2 l0_2 A3 c3 l0_3 A4 c4 l0_4 → NodeE.Ok w ⟨x, B4, d4, B6, d6⟩ → showN l0_0 l0_1 l0_2 l0_3 l0_4 x = some r →
    Calls Tryd.prog 26 #[.agg #[.slice A0 l0_0.length c0, .slice A1 l0_1.length c1, .slice A2 l0_2.length c2, .slice A3 l0_3.length c3, .slice A4 l0_4.length c4], .agg #[.int .i64 x.f0, .int .i64 x.f1, .int .i64 x.f2, .int .i64 x.f3, .slice B4 x.f4.length d4, .string x.f5, .slice B6 x.f6.length d6]] w fun e w' => e = .returned (.string r) ∧ Below w.heap.size w w' := by
  induction n with
  | zero => intro x _ _ _ _ _ _ h; omega
  | succ n ih =>
    intro x B4 d4 B6 d6 r w hs hgw hg hok h
    have IH := Aside0.mk ih
    have HGW := Aside0.mk hgw
    have HG := Aside0.mk hg
    have HOK := Aside0.mk hok
    have HSZ := Aside0.mk hs
    have S0 := Aside0.mk (SV.start (w := w) (A0 := A0) (c0 := c0) (l0_0 := l0_0) (A1 := A1) (c1 := c1) (l0_1 := l0_1) (A2 := A2) (c2 := c2) (l0_2 := l0_2) (A3 := A3) (c3 := c3) (l0_3 := l0_3) (A4 := A4) (c4 := c4) (l0_4 := l0_4) (x := x) (B4 := B4) (d4 := d4) (B6 := B6) (d6 := d6))
    have hn6 : x.f6.length ≤ 9223372036854775807 := HOK.out.g6.2.1
    rw [showN_eq] at h
    clear ih hgw hg hok hs
    by_cases h0 : x.f0 = 0
    case pos =>
      rw [if_pos h0] at h
      obtain rfl := Option.some.inj h
      have h0b : (x.f0 == 0) = true := beq_iff_eq.mpr h0
      clear h0 h
      go_enter Tryd.func26, Tryd.ntmps26
      go_wp2_with fail
      go_ret
      exact ⟨rfl, S0.out.B⟩
    rw [if_neg h0] at h
    have h0b : (x.f0 == 0) = false := beq_eq_false_iff_ne.mpr h0
    obtain ⟨name, hname, h⟩ := Option.bind_eq_some_iff.1 h
    have HN := Aside0.mk hname
    clear hname
    go_enter Tryd.func26, Tryd.ntmps26
    by_cases h1 : 0 < x.f0
    case pos =>
      rw [if_pos h1] at h
      have h1b : decide (0 < x.f0) = true := decide_eq_true h1
      clear h1 h0
      by_cases h2 : x.f3 = 1
      case pos =>
        rw [if_pos h2] at h
        have h2b : (x.f3 == 1) = true := beq_iff_eq.mpr h2
        split at h
        case isFalse => cases h
        rename_i hsz
        obtain rfl := Option.some.inj h
        have hq : 1 + name.size ≤ 9223372036854775807 := by omega
        clear h2 h hsz
        go_wp2_with fail
        refine (InG.sym (HG.out.below S0.out.B) HN.out).mono ?_
        rintro e w1 ⟨rfl, hb⟩
        have S1 := Aside0.mk (S0.out.below hb)
        obtain ⟨n0, n3, n5, n6⟩ := S1.out.cells
        clear hb
        go_wp2_with fail
        go_ret
        exact ⟨rfl, S1.out.B⟩
      rw [if_neg h2] at h
      have h2b : (x.f3 == 1) = false := beq_eq_false_iff_ne.mpr h2
      have HQ := Aside0.mk h
      clear h2 h
      go_wp2_with fail
      refine (InG.sym (HG.out.below S0.out.B) HN.out).mono ?_
      rintro e w1 ⟨rfl, hb⟩
      have S1 := Aside0.mk (S0.out.below hb)
      obtain ⟨n0, n3, n5, n6⟩ := S1.out.cells
      clear hb
      go_wp2_with fail
      refine (text_Quote.calls _ _ _ (GW.below HGW.out S1.out.B) HQ.out).mono ?_
      rintro e w2 ⟨rfl, hb⟩
      have HB2 := Aside0.mk hb
      clear hb
      go_wp2_with fail
      go_ret
      exact ⟨rfl, S1.out.B.trans (HB2.out.mono S1.out.B.size)⟩
    rw [if_neg h1] at h
    have h1b : decide (0 < x.f0) = false := decide_eq_false h1
    clear h1 h0
    obtain ⟨a, ha, h⟩ := Option.bind_eq_some_iff.1 h
    obtain ⟨b, hb, h⟩ := Option.bind_eq_some_iff.1 h
    obtain ⟨l, hl, rfl⟩ := Option.map_eq_some_iff.1 h
    have HA := Aside0.mk ha
    have HBL := Aside0.mk hb
    have HL := Aside0.mk hl
    clear h ha hb hl
    go_wp2_with fail
    refine (InG.sym (HG.out.below S0.out.B) HN.out).mono ?_
    rintro e w1 ⟨rfl, hb⟩
    have S1 := Aside0.mk (S0.out.below hb)
    obtain ⟨n0, n3, n5, n6⟩ := S1.out.cells
    clear hb
    go_wp2_with fail
    have S2 := Aside0.mk (S1.out.below (below_alloc (Below.refl w1.heap.size w1) (.cells #[.pointer none, .slice none 0 0] 69)))
    have D2 := Aside0.mk (Bd.new w1)
    have hbb := S1.out.size
    obtain ⟨w2, hw2⟩ : ∃ w2, w1.alloc (.cells #[.pointer none, .slice none 0 0] 69) = w2 := ⟨_, rfl⟩
    rw [hw2] at S2 D2 ⊢
    clear hw2
    obtain ⟨bb, hb0⟩ : ∃ bb, w1.heap.size = bb := ⟨_, rfl⟩
    rw [hb0] at D2 hbb ⊢
    clear hb0 S1 n0 n3 n5 n6
    refine (S2.out.write D2.out hbb ⟨#[40]⟩ (by simp; exact (by decide : (1:Nat) ≤ 140737488355328))).mono ?_
    rintro e w3 ⟨rfl, hS, hD⟩
    have S3 := Aside0.mk hS
    have D3 := Aside0.mk (show Bd bb [40] w3 from hD)
    clear hS hD S2 D2
    obtain ⟨n0, n3, n5, n6⟩ := S3.out.cells
    go_upto_if 30 with fail
    go_cut [30] (fun v30 wc => Aside0 (SV w A0 c0 l0_0 A1 c1 l0_1 A2 c2 l0_2 A3 c3 l0_3 A4 c4 l0_4 x B4 d4 B6 d6 wc) ∧ Aside0 (Bd bb (if x.f3 = 2 then [40, 33] else [40]) wc))
    case first =>
      by_cases h3 : x.f3 = 2
      case pos =>
        have h3b : (x.f3 == 2) = true := beq_iff_eq.mpr h3
        go_wp2_with fail
        refine (S3.out.write D3.out hbb ⟨#[33]⟩ (by simp; exact (by decide : (2:Nat) ≤ 140737488355328))).mono ?_
        rintro e w4 ⟨rfl, hS, hD⟩
        have S4 := Aside0.mk hS
        have D4 := Aside0.mk (show Bd bb (if x.f3 = 2 then [40, 33] else [40]) w4 by rw [if_pos h3]; exact hD)
        clear hS hD h3
        go_wp2_with fail
        go_meet
        case rel => exact ⟨S4, D4⟩
      case neg =>
        have h3b : (x.f3 == 2) = false := beq_eq_false_iff_ne.mpr h3
        have D4 := Aside0.mk (show Bd bb (if x.f3 = 2 then [40, 33] else [40]) w3 by rw [if_neg h3]; exact D3.out)
        clear h3
        go_wp2_with fail
        go_meet
        case rel => exact ⟨S3, D4⟩
    case rest =>
      clear S3 D3 n0 n3 n5 n6
      obtain ⟨S3, D3⟩ := hcut
      obtain ⟨hpl, rfl⟩ := bput.some HA.out
      have HPL := Aside0.mk hpl
      clear HA hpl
      go_wp2_with fail
      refine (S3.out.write D3.out hbb name HPL.out).mono ?_
      rintro e w4 ⟨rfl, hS, hD⟩
      have S4 := Aside0.mk hS
      have D4 := Aside0.mk hD
      clear hS hD S3 D3
      obtain ⟨n0, n3, n5, n6⟩ := S4.out.cells
      go_wp2_with fail
      go_loopw [37] (fun v37 wr => ∃ (i : Nat) (acc : List UInt8), v37 = .int .i64 (i : Int) ∧ i ≤ x.f6.length ∧ Aside0 (showL l0_0 l0_1 l0_2 l0_3 l0_4 acc (x.f6.drop i) = some b) ∧ Aside0 (SV w A0 c0 l0_0 A1 c1 l0_1 A2 c2 l0_2 A3 c3 l0_3 A4 c4 l0_4 x B4 d4 B6 d6 wr) ∧ Aside0 (Bd bb acc wr)) (fun v37 _ => match v37 with | .int _ z => x.f6.length - z.toNat | _ => 0)
      case atStart => exact ⟨0, _, rfl, Nat.zero_le _, HBL, S4, D4⟩
      case round =>
        clear HBL S4 D4 n0 n3 n5 n6
        obtain ⟨i, acc, rfl, hi, HBL, S4, D4⟩ := hrel
        obtain ⟨n0, n3, n5, n6⟩ := S4.out.cells
        by_cases hlt : i < x.f6.length
        · have hlt2 : decide ((i : Int) < (x.f6.length : Int)) = true := decide_eq_true (by omega)
          obtain ⟨ad, d, e1, hdx, hok, hc⟩ := kid_at HOK.out i hlt
          have e1' : B6 = some ad := e1
          subst e1'
          clear e1
          obtain ⟨x2, E4, f4, E6, f6⟩ := d
          dsimp only at hdx
          have q0 : wr.cell? (ad.add (i * 7)) = some (.int .i64 x2.f0) := kc2 S4.out.B (hc 0 _ rfl)
          have q1 : wr.cell? ⟨(ad.add (i * 7)).block, (ad.add (i * 7)).off + 1, none⟩ = some (.int .i64 x2.f1) := by rw [← add_field _ _ 1 (by omega)]; exact kc2 S4.out.B (hc 1 _ rfl)
          have q2 : wr.cell? ⟨(ad.add (i * 7)).block, (ad.add (i * 7)).off + 2, none⟩ = some (.int .i64 x2.f2) := by rw [← add_field _ _ 2 (by omega)]; exact kc2 S4.out.B (hc 2 _ rfl)
          have q3 : wr.cell? ⟨(ad.add (i * 7)).block, (ad.add (i * 7)).off + 3, none⟩ = some (.int .i64 x2.f3) := by rw [← add_field _ _ 3 (by omega)]; exact kc2 S4.out.B (hc 3 _ rfl)
          have q4 : wr.cell? ⟨(ad.add (i * 7)).block, (ad.add (i * 7)).off + 4, none⟩ = some (.slice E4 x2.f4.length f4) := by rw [← add_field _ _ 4 (by omega)]; exact kc2 S4.out.B (hc 4 _ rfl)
          have q5 : wr.cell? ⟨(ad.add (i * 7)).block, (ad.add (i * 7)).off + 5, none⟩ = some (.string x2.f5) := by rw [← add_field _ _ 5 (by omega)]; exact kc2 S4.out.B (hc 5 _ rfl)
          have q6 : wr.cell? ⟨(ad.add (i * 7)).block, (ad.add (i * 7)).off + 6, none⟩ = some (.slice E6 x2.f6.length f6) := by rw [← add_field _ _ 6 (by omega)]; exact kc2 S4.out.B (hc 6 _ rfl)
          have h := HBL.out
          rw [List.drop_eq_getElem_cons hlt, ← hdx] at h
          simp only [showL] at h
          obtain ⟨t, ht, h⟩ := Option.bind_eq_some_iff.1 h
          obtain ⟨a2, ha2, h⟩ := Option.bind_eq_some_iff.1 h
          obtain ⟨hpl, rfl⟩ := bput.some ha2
          have HT := Aside0.mk ht
          have HBL2 := Aside0.mk h
          have HPL := Aside0.mk hpl
          have hsz : SizeOf.sizeOf x2 < n := by
            have h5 : SizeOf.sizeOf x.f6[i] < SizeOf.sizeOf x.f6 := List.sizeOf_lt_of_mem (List.getElem_mem hlt)
            have h6 : SizeOf.sizeOf x.f6 < SizeOf.sizeOf x := by cases x; simp; omega
            have h7 := HSZ.out
            rw [← hdx] at h5
            omega
          have HS2 := Aside0.mk hsz
          have HOK2 := Aside0.mk hok
          have hq2 : 1 + t.size ≤ 9223372036854775807 := by rw [ByteArray.size_append] at hpl; have : (⟨#[32]⟩ : ByteArray).size = 1 := rfl; omega
          have S5 := Aside0.mk (S4.out.below (below_alloc (Below.refl wr.heap.size wr) (.cells #[.int .i64 x2.f0, .int .i64 x2.f1, .int .i64 x2.f2, .int .i64 x2.f3, .slice E4 x2.f4.length f4, .string x2.f5, .slice E6 x2.f6.length f6] 26)))
          have D5 := Aside0.mk (D4.out.alloc (.cells #[.int .i64 x2.f0, .int .i64 x2.f1, .int .i64 x2.f2, .int .i64 x2.f3, .slice E4 x2.f4.length f4, .string x2.f5, .slice E6 x2.f6.length f6] 26))
          have hwl : w.heap.size + 1 < wr.heap.size := S4.out.size
          have hwl0 : w.heap.size < wr.heap.size := by omega
          have hwn : ¬ (w.heap.size = wr.heap.size) := by omega
          obtain ⟨g0, g1, g2, g3, g4⟩ := S4.out.g.cells
          have hm : x.f6.length - (i + 1) < x.f6.length - i := by omega
          have ew2 : wrap64 ((i : Int) + 1) = ((i + 1 : Nat) : Int) := by unfold wrap64; omega
          have HEW := Aside0.mk ew2
          clear h ht ha2 hpl hsz hok hc hdx HBL S4 D4 ew2
          go_wp2_with fail
          refine (IH.out x2 E4 f4 E6 f6 t _ HS2.out (GW.below HGW.out S5.out.B) (HG.out.below S5.out.B) (HOK2.out.step (fun k q => S5.out.B.block k q)) HT.out).mono ?_
          rintro e w5 ⟨rfl, hb⟩
          have S6 := Aside0.mk (S5.out.below hb)
          have D6 := Aside0.mk (D5.out.below hb)
          clear hb S5 D5 n0 n3 n5 n6 g0 g1 g2 g3 g4 q0 q1 q2 q3 q4 q5 q6
          go_wp2_with fail
          refine (S6.out.write D6.out hbb _ HPL.out).mono ?_
          rintro e w6 ⟨rfl, hS, hD⟩
          have S7 := Aside0.mk hS
          have D7 := Aside0.mk hD
          clear hS hD S6 D6
          have ew := HEW.out
          go_wp2_with fail
          refine ⟨⟨i + 1, _, ?_, hlt, HBL2, S7, D7⟩, ?_⟩
          · first | rfl | (simp; done) | (simp [ew]; done)
          · first | exact hm | (rw [ew]; exact hm)
        · have hlt2 : decide ((i : Int) < (x.f6.length : Int)) = false := decide_eq_false (by omega)
          have hie : i = x.f6.length := by omega
          have h := HBL.out
          rw [hie, List.drop_of_length_le (Nat.le_refl _)] at h
          simp only [showL] at h
          obtain rfl := Option.some.inj h
          obtain ⟨hpl, rfl⟩ := bput.some HL.out
          have HPL := Aside0.mk hpl
          clear h hie HBL HL hpl
          go_wp2_with fail
          refine (S4.out.write D4.out hbb ⟨#[41]⟩ HPL.out).mono ?_
          rintro e w5 ⟨rfl, hS, hD⟩
          have S5 := Aside0.mk hS
          have D5 := Aside0.mk hD
          clear hS hD S4 D4
          go_wp2_with fail
          refine (D5.out.string).mono ?_
          rintro e w6 ⟨rfl, hb⟩
          have HB6 := Aside0.mk (S5.out.B.trans (hb.mono (by omega)))
          clear hb
          go_wp2_with fail
          go_ret
          exact ⟨rfl, HB6.out⟩
theorem cst_Show.calls (A0_0 : Option Addr) (c0_0 : Nat) (l0_0 : List ByteArray) (A0_1 : Option Addr) (c0_1 : Nat) (l0_1 : List ByteArray) (A0_2 : Option Addr) (c0_2 : Nat) (l0_2 : List Int) (A0_3 : Option Addr) (c0_3 : Nat) (l0_3 : List S58) (A0_4 : Option Addr) (c0_4 : Nat) (l0_4 : List S61) (a1_0 : Int) (a1_1 : Int) (a1_2 : Int) (a1_3 : Int) (A1_4 : Option Addr) (c1_4 : Nat) (l1_4 : List S46) (a1_5 : ByteArray) (A1_6 : Option Addr) (c1_6 : Nat) (l1_6 : List S26) (r : ByteArray) (w : World) (hgw : GW w) (hr0_0 : Kd.C Kd.string w A0_0 l0_0.length l0_0) (hc0_0 : l0_0.length ≤ c0_0) (hr0_1 : Kd.C Kd.string w A0_1 l0_1.length l0_1) (hc0_1 : l0_1.length ≤ c0_1) (hr0_2 : Kd.C (Kd.int .i64) w A0_2 l0_2.length l0_2) (hc0_2 : l0_2.length ≤ c0_2) (hr0_3 : Kd.C k58 w A0_3 l0_3.length l0_3) (hc0_3 : l0_3.length ≤ c0_3) (hr0_4 : Kd.C k61 w A0_4 l0_4.length l0_4) (hc0_4 : l0_4.length ≤ c0_4) (hr1_4 : Kd.C k46 w A1_4 l1_4.length l1_4) (hc1_4 : l1_4.length ≤ c1_4) (hr1_6 : Kd.C k26 w A1_6 l1_6.length l1_6) (hc1_6 : l1_6.length ≤ c1_6) (h : cst_Show.f l0_0 l0_1 l0_2 l0_3 l0_4 a1_0 a1_1 a1_2 a1_3 l1_4 a1_5 l1_6 = some r) :
    Calls Tryd.prog 26 #[.agg #[.slice A0_0 l0_0.length c0_0, .slice A0_1 l0_1.length c0_1, .slice A0_2 l0_2.length c0_2, .slice A0_3 l0_3.length c0_3, .slice A0_4 l0_4.length c0_4], .agg #[.int .i64 a1_0, .int .i64 a1_1, .int .i64 a1_2, .int .i64 a1_3, .slice A1_4 l1_4.length c1_4, .string a1_5, .slice A1_6 l1_6.length c1_6]] w fun e w' => e = .returned (.string r) ∧ Below w.heap.size w w' :=
  show_walk _ _ _ _ _ _ _ _ _ _ _ _ _ _ _ _ ⟨a1_0, a1_1, a1_2, a1_3, l1_4, a1_5, l1_6⟩ A1_4 c1_4 A1_6 c1_6 r w (Nat.lt_succ_self _) hgw (InG.mk hr0_0 hc0_0 hr0_1 hc0_1 hr0_2 hc0_2 hr0_3 hc0_3 hr0_4 hc0_4) ⟨hc1_4, hr1_4, hc1_6, hr1_6⟩ h
end Go.Proofs.YtphmgaijkdflnaaDoor.H
end
section
namespace Go.Proofs.YtphmgaijkdflnaaDoor.H
open Go.RowKit Go.Shelf Go.Proofs.YtphmgaijkdflnaaDoorW.PrintWords Go.Proofs.YtphmgaijkdflnaaDoorW.PrintLast Go.Proofs.YtphmgaijkdflnaaDoorW.PrintMore
open Go.Maps
set_option linter.unusedVariables false
set_option linter.unusedSimpArgs false
section
variable {w W : World} {A0 : Option Addr} {c0 : Nat} {l0_0 : List ByteArray} {A1 : Option Addr} {c1 : Nat} {l0_1 : List ByteArray} {A2 : Option Addr} {c2 : Nat} {l0_2 : List Int} {A3 : Option Addr} {c3 : Nat} {l0_3 : List S58} {A4 : Option Addr} {c4 : Nat} {l0_4 : List S61} {y : S26} {B4 : Option Addr} {d4 : Nat} {B6 : Option Addr} {d6 : Nat} {z : S26} {C4 : Option Addr} {e4 : Nat} {C6 : Option Addr} {e6 : Nat}
theorem NodeE.Ok.clean (O : NodeE.Ok W ⟨y, B4, d4, B6, d6⟩) {r : Bool} (h : cst_Clean.f y.f0 y.f1 y.f2 y.f3 y.f4 y.f5 y.f6 = some r) : Calls Tryd.prog 19 #[.agg #[.int .i64 y.f0, .int .i64 y.f1, .int .i64 y.f2, .int .i64 y.f3, .slice B4 y.f4.length d4, .string y.f5, .slice B6 y.f6.length d6]] W fun e w' => e = .returned (.bool r) ∧ Below W.heap.size W w' :=
  cst_Clean.calls _ _ _ _ _ _ _ _ _ _ _ r W O.g4 O.l4 O.g6 O.l6 h
theorem NodeE.Ok.text (O : NodeE.Ok W ⟨y, B4, d4, B6, d6⟩) {r : ByteArray} (h : cst_Text.f y.f0 y.f1 y.f2 y.f3 y.f4 y.f5 y.f6 = some r) : Calls Tryd.prog 10 #[.agg #[.int .i64 y.f0, .int .i64 y.f1, .int .i64 y.f2, .int .i64 y.f3, .slice B4 y.f4.length d4, .string y.f5, .slice B6 y.f6.length d6]] W fun e w' => e = .returned (.string r) ∧ Below W.heap.size W w' :=
  cst_Text.calls _ _ _ _ _ _ _ _ _ _ _ r W O.g4 O.l4 O.g6 O.l6 h
theorem NodeE.Ok.len (O : NodeE.Ok W ⟨y, B4, d4, B6, d6⟩) {r : Int} (h : cst_Len.f y.f0 y.f1 y.f2 y.f3 y.f4 y.f5 y.f6 = some r) : Calls Tryd.prog 12 #[.agg #[.int .i64 y.f0, .int .i64 y.f1, .int .i64 y.f2, .int .i64 y.f3, .slice B4 y.f4.length d4, .string y.f5, .slice B6 y.f6.length d6]] W fun e w' => e = .returned (.int .i64 r) ∧ Below W.heap.size W w' :=
  cst_Len.calls _ _ _ _ _ _ _ _ _ _ _ r W O.g4 O.l4 O.g6 O.l6 h
theorem NodeE.Ok.leaves (O : NodeE.Ok W ⟨y, B4, d4, B6, d6⟩) {r : List S26} (h : cst_Leaves.f y.f0 y.f1 y.f2 y.f3 y.f4 y.f5 y.f6 = some r) : Calls Tryd.prog 17 #[.agg #[.int .i64 y.f0, .int .i64 y.f1, .int .i64 y.f2, .int .i64 y.f3, .slice B4 y.f4.length d4, .string y.f5, .slice B6 y.f6.length d6]] W fun e w' => ∃ A c, e = .returned (.slice A r.length c) ∧ Below W.heap.size W w' := by
  refine (cst_Leaves.calls _ _ _ _ _ _ _ _ _ _ _ r W O.g4 O.l4 O.g6 O.l6 h).mono ?_
  rintro e w' ⟨v, rfl, hR, hb⟩
  obtain ⟨A, c, rfl⟩ := Kd.R_slice hR
  exact ⟨A, c, rfl, hb⟩
theorem NodeE.Ok.same {k : Nat} (O : NodeE.Ok W ⟨y, B4, d4, B6, d6⟩) (O2 : NodeE.Ok W ⟨z, C4, e4, C6, e6⟩) {r : Bool} (h : cst_Same.f k y.f0 y.f1 y.f2 y.f3 y.f4 y.f5 y.f6 z.f0 z.f1 z.f2 z.f3 z.f4 z.f5 z.f6 = some r) : Calls Tryd.prog 21 #[.agg #[.int .i64 y.f0, .int .i64 y.f1, .int .i64 y.f2, .int .i64 y.f3, .slice B4 y.f4.length d4, .string y.f5, .slice B6 y.f6.length d6], .agg #[.int .i64 z.f0, .int .i64 z.f1, .int .i64 z.f2, .int .i64 z.f3, .slice C4 z.f4.length e4, .string z.f5, .slice C6 z.f6.length e6]] W fun e w' => e = .returned (.bool r) ∧ Below W.heap.size W w' :=
  cst_Same.calls k _ _ _ _ _ _ _ _ _ _ _ _ _ _ _ _ _ _ _ _ _ _ r W O.g4 O.l4 O.g6 O.l6 O2.g4 O2.l4 O2.g6 O2.l6 h
theorem InG.show_ (G : InG W A0 c0 l0_0 A1 c1 l0_1 A2 c2 l0_2 A3 c3 l0_3 A4 c4 l0_4) (hgw : GW W) (O : NodeE.Ok W ⟨y, B4, d4, B6, d6⟩) {r : ByteArray} (h : cst_Show.f l0_0 l0_1 l0_2 l0_3 l0_4 y.f0 y.f1 y.f2 y.f3 y.f4 y.f5 y.f6 = some r) : Calls Tryd.prog 26 #[.agg #[.slice A0 l0_0.length c0, .slice A1 l0_1.length c1, .slice A2 l0_2.length c2, .slice A3 l0_3.length c3, .slice A4 l0_4.length c4], .agg #[.int .i64 y.f0, .int .i64 y.f1, .int .i64 y.f2, .int .i64 y.f3, .slice B4 y.f4.length d4, .string y.f5, .slice B6 y.f6.length d6]] W fun e w' => e = .returned (.string r) ∧ Below W.heap.size W w' :=
  cst_Show.calls _ _ _ _ _ _ _ _ _ _ _ _ _ _ _ _ _ _ _ _ _ _ _ _ _ _ r W hgw G.r0 G.h0 G.r1 G.h1 G.r2 G.h2 G.r3 G.h3 G.r4 G.h4 O.g4 O.l4 O.g6 O.l6 h
theorem InG.cstright {k : Nat} (G : InG W A0 c0 l0_0 A1 c1 l0_1 A2 c2 l0_2 A3 c3 l0_3 A4 c4 l0_4) (O : NodeE.Ok W ⟨y, B4, d4, B6, d6⟩) {r : Bool} (h : cst_Right.f k l0_0 l0_1 l0_2 l0_3 l0_4 y.f0 y.f1 y.f2 y.f3 y.f4 y.f5 y.f6 = some r) : Calls Tryd.prog 24 #[.agg #[.slice A0 l0_0.length c0, .slice A1 l0_1.length c1, .slice A2 l0_2.length c2, .slice A3 l0_3.length c3, .slice A4 l0_4.length c4], .agg #[.int .i64 y.f0, .int .i64 y.f1, .int .i64 y.f2, .int .i64 y.f3, .slice B4 y.f4.length d4, .string y.f5, .slice B6 y.f6.length d6]] W fun e w' => e = .returned (.bool r) ∧ Below W.heap.size W w' :=
  cst_Right.calls k _ _ _ _ _ _ _ _ _ _ _ _ _ _ _ _ _ _ _ _ _ _ _ _ _ _ r W G.r0 G.h0 G.r1 G.h1 G.r2 G.h2 G.r3 G.h3 G.r4 G.h4 O.g4 O.l4 O.g6 O.l6 h
end
def plusN : S26 := ⟨-1, 0, 0, 0, [], ⟨#[]⟩, [nInner (-2) 1 [nInner (-2) 2 [nLeaf 2 (-1) 0 ⟨#[49]⟩], nLeaf 3 (-1) 0 ⟨#[43]⟩, nInner (-2) 2 [nLeaf 2 (-1) 1 ⟨#[]⟩]], nLeaf 0 (-1) 0 ⟨#[]⟩]⟩
theorem plus_any (P : S26) (hP : P = plusN) (w : World) : Calls Tryd.prog 30 #[] w fun e w' => ∃ A4 c4 A6 c6, e = .returned (.agg #[.int .i64 P.f0, .int .i64 P.f1, .int .i64 P.f2, .int .i64 P.f3, .slice A4 P.f4.length c4, .string P.f5, .slice A6 P.f6.length c6]) ∧ NodeE.Ok w' ⟨P, A4, c4, A6, c6⟩ ∧ Below w.heap.size w w' := by
  refine (arboristlaw42_Plus.calls P.f0 P.f1 P.f2 P.f3 P.f4 P.f5 P.f6 w (by rw [hP]; rfl)).mono ?_
  rintro e w' ⟨v0, v1, rfl, h4, h6, hb⟩
  obtain ⟨A4, c4, rfl⟩ := Kd.R_slice h4
  obtain ⟨A6, c6, rfl, hl6, hr6⟩ := Kd.N_reads h6
  obtain ⟨_, hl4, hr4⟩ := Kd.R_reads' h4
  exact ⟨A4, c4, A6, c6, rfl, ⟨hl4, hr4, hl6, hr6⟩, hb⟩
theorem sum_any (l0_0 l0_1 : List ByteArray) (l0_2 : List Int) (l0_3 : List S58) (l0_4 : List S61) (h : arboristlaw21_Sum.f = some (l0_0, l0_1, l0_2, l0_3, l0_4)) (w : World) :
    Calls Tryd.prog 29 #[] w fun e w' => ∃ A0 c0 A1 c1 A2 c2 A3 c3 A4 c4, e = .returned (.agg #[.slice A0 l0_0.length c0, .slice A1 l0_1.length c1, .slice A2 l0_2.length c2, .slice A3 l0_3.length c3, .slice A4 l0_4.length c4]) ∧ InG w' A0 c0 l0_0 A1 c1 l0_1 A2 c2 l0_2 A3 c3 l0_3 A4 c4 l0_4 ∧ Below w.heap.size w w' := by
  refine (arboristlaw21_Sum.calls _ _ _ _ _ w h).mono ?_
  rintro e w' ⟨v0, v1, v2, v3, v4, rfl, h0, h1, h2, h3, h4, hb⟩
  obtain ⟨A0, c0, rfl⟩ := Kd.R_slice h0
  obtain ⟨A1, c1, rfl⟩ := Kd.R_slice h1
  obtain ⟨A2, c2, rfl⟩ := Kd.R_slice h2
  obtain ⟨A3, c3, rfl, k3, g3⟩ := Kd.N_reads h3
  obtain ⟨A4, c4, rfl, k4, g4⟩ := Kd.N_reads h4
  exact ⟨_, _, _, _, _, _, _, _, _, _, rfl, ⟨(Kd.R_reads' h0).2.2, (Kd.R_reads' h0).2.1, (Kd.R_reads' h1).2.2, (Kd.R_reads' h1).2.1, (Kd.R_reads' h2).2.2, (Kd.R_reads' h2).2.1, g3, k3, g4, k4⟩, hb⟩
theorem kc3 {w W : World} {p : Addr} {v : Value} (hb : Below w.heap.size w W) (h : w.cell? p = some v) : W.cell? p = some v := (hb.cell (World.block_lt_of_cell? w _ h)).trans h
theorem keepS {w1 W W' : World} {p0 p1 p2 p3 p4 : Addr} {v0 v1 v2 v3 v4 : Value} (hb : Below W.heap.size W W') (h : Below w1.heap.size w1 W ∧ W.cell? p0 = some v0 ∧ W.cell? p1 = some v1 ∧ W.cell? p2 = some v2 ∧ W.cell? p3 = some v3 ∧ W.cell? p4 = some v4) :
    Below w1.heap.size w1 W' ∧ W'.cell? p0 = some v0 ∧ W'.cell? p1 = some v1 ∧ W'.cell? p2 = some v2 ∧ W'.cell? p3 = some v3 ∧ W'.cell? p4 = some v4 :=
  ⟨h.1.trans (hb.mono h.1.size), kc3 hb h.2.1, kc3 hb h.2.2.1, kc3 hb h.2.2.2.1, kc3 hb h.2.2.2.2.1, kc3 hb h.2.2.2.2.2⟩
set_option maxRecDepth 100000 in
set_option maxHeartbeats 8000000 in
theorem knows_walk (P : S26) (hP : P = plusN) (l0_0 l0_1 : List ByteArray) (l0_2 : List Int) (l0_3 : List S58) (l0_4 : List S61) (hS : arboristlaw21_Sum.f = some (l0_0, l0_1, l0_2, l0_3, l0_4)) {k : Nat} {t1 t2 : ByteArray} {lv : List S26}
    (e1 : cst_Show.f l0_0 l0_1 l0_2 l0_3 l0_4 P.f0 P.f1 P.f2 P.f3 P.f4 P.f5 P.f6 = some t1) (e1b : (t1.toList == [40, 36, 115, 116, 97, 114, 116, 32, 40, 101, 32, 40, 101, 32, 34, 49, 34, 41, 32, 34, 43, 34, 32, 40, 101, 32, 33, 110, 41, 41, 32, 36, 101, 110, 100, 41]) = true) (e2 : cst_Right.f k l0_0 l0_1 l0_2 l0_3 l0_4 P.f0 P.f1 P.f2 P.f3 P.f4 P.f5 P.f6 = some true) (e3 : cst_Clean.f P.f0 P.f1 P.f2 P.f3 P.f4 P.f5 P.f6 = some false) (e4 : cst_Text.f P.f0 P.f1 P.f2 P.f3 P.f4 P.f5 P.f6 = some t2) (e4b : (t2.toList == [49, 43]) = true) (e5 : cst_Len.f P.f0 P.f1 P.f2 P.f3 P.f4 P.f5 P.f6 = some 2) (e6 : cst_Size.f P.f0 P.f1 P.f2 P.f3 P.f4 P.f5 P.f6 = some 8)
    (e7 : cst_Leaves.f P.f0 P.f1 P.f2 P.f3 P.f4 P.f5 P.f6 = some lv) (e7b : lv.length = 4) (e8 : cst_Same.f k P.f0 P.f1 P.f2 P.f3 P.f4 P.f5 P.f6 P.f0 P.f1 P.f2 P.f3 P.f4 P.f5 P.f6 = some true) (w : World) (hgw : GW w) : Calls Tryd.prog 9 #[] w fun e w' => e = .returned (.bool true) ∧ Below w.heap.size w w' := by
  have HP := Aside0.mk (plus_any P hP)
  have HSU := Aside0.mk (sum_any l0_0 l0_1 l0_2 l0_3 l0_4 hS)
  have HGW := Aside0.mk hgw
  have E1 := Aside0.mk e1
  have E2 := Aside0.mk e2
  have E3 := Aside0.mk e3
  have E4 := Aside0.mk e4
  have E5 := Aside0.mk e5
  have E6 := Aside0.mk e6
  have E7 := Aside0.mk e7
  have E7b := Aside0.mk e7b
  have E8 := Aside0.mk e8
  clear hP hS e1 e2 e3 e4 e5 e6 e7 e7b e8 hgw
  go_enter Tryd.func9, Tryd.ntmps9
  go_wp2_with (go_at_call 29; refine (HSU.out _).mono ?_; rintro e w1 ⟨A0, c0, A1, c1, A2, c2, A3, c3, A4, c4, rfl, hg, hb⟩; have HG := Aside0.mk hg; have HB := Aside0.mk hb; clear hg hb)
  have hw2 := below_alloc (Below.refl w1.heap.size w1) (.cells #[.slice A0 l0_0.length c0, .slice A1 l0_1.length c1, .slice A2 l0_2.length c2, .slice A3 l0_3.length c3, .slice A4 l0_4.length c4] 40)
  have hbk := blk_new w1 (.cells #[.slice A0 l0_0.length c0, .slice A1 l0_1.length c1, .slice A2 l0_2.length c2, .slice A3 l0_3.length c3, .slice A4 l0_4.length c4] 40)
  have g0 : (w1.alloc (.cells #[.slice A0 l0_0.length c0, .slice A1 l0_1.length c1, .slice A2 l0_2.length c2, .slice A3 l0_3.length c3, .slice A4 l0_4.length c4] 40)).cell? ⟨w1.heap.size, 0, none⟩ = some (.slice A0 l0_0.length c0) := (blk_cell hbk 0).trans rfl
  have g1 : (w1.alloc (.cells #[.slice A0 l0_0.length c0, .slice A1 l0_1.length c1, .slice A2 l0_2.length c2, .slice A3 l0_3.length c3, .slice A4 l0_4.length c4] 40)).cell? ⟨w1.heap.size, 1, none⟩ = some (.slice A1 l0_1.length c1) := (blk_cell hbk 1).trans rfl
  have g2 : (w1.alloc (.cells #[.slice A0 l0_0.length c0, .slice A1 l0_1.length c1, .slice A2 l0_2.length c2, .slice A3 l0_3.length c3, .slice A4 l0_4.length c4] 40)).cell? ⟨w1.heap.size, 2, none⟩ = some (.slice A2 l0_2.length c2) := (blk_cell hbk 2).trans rfl
  have g3 : (w1.alloc (.cells #[.slice A0 l0_0.length c0, .slice A1 l0_1.length c1, .slice A2 l0_2.length c2, .slice A3 l0_3.length c3, .slice A4 l0_4.length c4] 40)).cell? ⟨w1.heap.size, 3, none⟩ = some (.slice A3 l0_3.length c3) := (blk_cell hbk 3).trans rfl
  have g4 : (w1.alloc (.cells #[.slice A0 l0_0.length c0, .slice A1 l0_1.length c1, .slice A2 l0_2.length c2, .slice A3 l0_3.length c3, .slice A4 l0_4.length c4] 40)).cell? ⟨w1.heap.size, 4, none⟩ = some (.slice A4 l0_4.length c4) := (blk_cell hbk 4).trans rfl
  clear hbk
  obtain ⟨w2, hw⟩ : ∃ w2, w1.alloc (.cells #[.slice A0 l0_0.length c0, .slice A1 l0_1.length c1, .slice A2 l0_2.length c2, .slice A3 l0_3.length c3, .slice A4 l0_4.length c4] 40) = w2 := ⟨_, rfl⟩
  rw [hw] at hw2 g0 g1 g2 g3 g4 ⊢
  clear hw
  have HB2 := Aside0.mk hw2
  clear hw2
  first | (go_region_held3 (fun w' => Below w1.heap.size w1 w' ∧ w'.cell? ⟨w1.heap.size, 0, none⟩ = some (.slice A0 l0_0.length c0) ∧ w'.cell? ⟨w1.heap.size, 1, none⟩ = some (.slice A1 l0_1.length c1) ∧ w'.cell? ⟨w1.heap.size, 2, none⟩ = some (.slice A2 l0_2.length c2) ∧ w'.cell? ⟨w1.heap.size, 3, none⟩ = some (.slice A3 l0_3.length c3) ∧ w'.cell? ⟨w1.heap.size, 4, none⟩ = some (.slice A4 l0_4.length c4))
    (first
      | exact keepS hb (by assumption)
      | exact keepS hb ⟨by assumption, by assumption, by assumption, by assumption, by assumption, by assumption⟩
      | (refine ⟨below_drew1 HB2.out, ?_, ?_, ?_, ?_, ?_⟩ <;> (first | assumption | (simp [*]; done))))
    (first
      | (go_at_call 30; refine (HP.out _).mono ?_; rintro e wp ⟨X4, x4, X6, x6, rfl, hok, hb⟩; (try have HOLD := Aside0.mk (HOK.out.step (fun k q => hb.block k q))); (try clear HOK); have HOK := Aside0.mk hok; clear hok)
      | (go_at_call 26; refine (InG.show_ (HG.out.below (by first | assumption | exact And.left (by assumption) | exact below_drew1 HB2.out)) (GW.below HGW.out (HB.out.trans (Below.mono (by first | assumption | exact And.left (by assumption) | exact below_drew1 HB2.out) HB.out.size))) HOK.out E1.out).mono ?_; rintro e wp ⟨rfl, hb⟩; clear HOK)
      | (go_at_call 24; refine (InG.cstright (HG.out.below (by first | assumption | exact And.left (by assumption) | exact below_drew1 HB2.out)) HOK.out E2.out).mono ?_; rintro e wp ⟨rfl, hb⟩; clear HOK)
      | (go_at_call 19; refine (NodeE.Ok.clean HOK.out E3.out).mono ?_; rintro e wp ⟨rfl, hb⟩; clear HOK)
      | (go_at_call 10; refine (NodeE.Ok.text HOK.out E4.out).mono ?_; rintro e wp ⟨rfl, hb⟩; clear HOK)
      | (go_at_call 12; refine (NodeE.Ok.len HOK.out E5.out).mono ?_; rintro e wp ⟨rfl, hb⟩; clear HOK)
      | (go_at_call 14; refine (NodeE.Ok.size HOK.out E6.out).mono ?_; rintro e wp ⟨rfl, hb⟩; clear HOK)
      | (go_at_call 17; refine (NodeE.Ok.leaves HOK.out E7.out).mono ?_; rintro e wp ⟨LA, lc, rfl, hb⟩; clear HOK; rw [E7b.out])
      | (go_at_call 21; refine (NodeE.Ok.same HOLD.out HOK.out E8.out).mono ?_; rintro e wp ⟨rfl, hb⟩; clear HOK))) | fail
  go_wp2
  go_ret
  exact ⟨rfl, HB.out.trans (Below.mono (by first | assumption | exact And.left (by assumption) | exact below_drew1 HB2.out) HB.out.size)⟩
theorem know_facts : ∃ l0_0 l0_1 l0_2 l0_3 l0_4 t1 t2 lv, arboristlaw21_Sum.f = some (l0_0, l0_1, l0_2, l0_3, l0_4) ∧ cst_Show.f l0_0 l0_1 l0_2 l0_3 l0_4 plusN.f0 plusN.f1 plusN.f2 plusN.f3 plusN.f4 plusN.f5 plusN.f6 = some t1 ∧ (t1.toList == [40, 36, 115, 116, 97, 114, 116, 32, 40, 101, 32, 40, 101, 32, 34, 49, 34, 41, 32, 34, 43, 34, 32, 40, 101, 32, 33, 110, 41, 41, 32, 36, 101, 110, 100, 41]) = true ∧ cst_Right.f 50 l0_0 l0_1 l0_2 l0_3 l0_4 plusN.f0 plusN.f1 plusN.f2 plusN.f3 plusN.f4 plusN.f5 plusN.f6 = some true ∧ cst_Clean.f plusN.f0 plusN.f1 plusN.f2 plusN.f3 plusN.f4 plusN.f5 plusN.f6 = some false ∧ cst_Text.f plusN.f0 plusN.f1 plusN.f2 plusN.f3 plusN.f4 plusN.f5 plusN.f6 = some t2 ∧ (t2.toList == [49, 43]) = true ∧
    cst_Len.f plusN.f0 plusN.f1 plusN.f2 plusN.f3 plusN.f4 plusN.f5 plusN.f6 = some 2 ∧ cst_Size.f plusN.f0 plusN.f1 plusN.f2 plusN.f3 plusN.f4 plusN.f5 plusN.f6 = some 8 ∧ cst_Leaves.f plusN.f0 plusN.f1 plusN.f2 plusN.f3 plusN.f4 plusN.f5 plusN.f6 = some lv ∧ lv.length = 4 ∧ cst_Same.f 50 plusN.f0 plusN.f1 plusN.f2 plusN.f3 plusN.f4 plusN.f5 plusN.f6 plusN.f0 plusN.f1 plusN.f2 plusN.f3 plusN.f4 plusN.f5 plusN.f6 = some true :=
  ⟨_, _, _, _, _, ⟨#[40, 36, 115, 116, 97, 114, 116, 32, 40, 101, 32, 40, 101, 32, 34, 49, 34, 41, 32, 34, 43, 34, 32, 40, 101, 32, 33, 110, 41, 41, 32, 36, 101, 110, 100, 41]⟩, ⟨#[49, 43]⟩, leavesN plusN, rfl, by kernel_rfl, by kernel_rfl, by kernel_rfl, by kernel_rfl, by kernel_rfl, by kernel_rfl, by kernel_rfl, by kernel_rfl, by kernel_rfl, by kernel_rfl, by kernel_rfl⟩
def arboristlaw42_knows.f : Option Bool := some true
theorem arboristlaw42_knows.calls (r : Bool) (w : World) (hgw : GW w) (h : arboristlaw42_knows.f = some r) : Calls Tryd.prog 9 #[] w fun e w' => e = .returned (.bool r) ∧ Below w.heap.size w w' := by
  obtain rfl := Option.some.inj h
  obtain ⟨a, b, c, d, e, t1, t2, lv, h0, h1, h2, h3, h4, h5, h6, h7, h8, h9, ha, hb⟩ := know_facts
  exact knows_walk plusN rfl a b c d e h0 h1 h2 (k := 50) h3 h4 h5 h6 h7 h8 h9 ha hb w hgw
end Go.Proofs.YtphmgaijkdflnaaDoor.H
end
section
namespace Go.Proofs.YtphmgaijkdflnaaDoor.H
open Go.RowKit Go.Proofs.YtphmgaijkdflnaaDoorW.PrintWords Go.Proofs.YtphmgaijkdflnaaDoorW.PrintLast Go.Proofs.YtphmgaijkdflnaaDoorW.PrintMore
set_option linter.unusedVariables false
set_option linter.unusedSimpArgs false
theorem size_val {x : S26} (h : Mild x) : cst_Size.f x.f0 x.f1 x.f2 x.f3 x.f4 x.f5 x.f6 = some ((preN x).length : Int) := by cases x; exact if_pos h.2.2
theorem leaves_val {x : S26} (h : Mild x) : cst_Leaves.f x.f0 x.f1 x.f2 x.f3 x.f4 x.f5 x.f6 = some (leavesN x) := by cases x; exact if_pos h
theorem clean_val {x : S26} (h : Mild x) : cst_Clean.f x.f0 x.f1 x.f2 x.f3 x.f4 x.f5 x.f6 = some ((preN x).all cleanN) := by cases x; exact if_pos h
theorem leaves_len (x : S26) : (leavesN x).length ≤ (preN x).length := by
  unfold leavesN
  rw [List.length_map]
  exact List.length_filter_le _ _
theorem knows_ends : Ends (fun _ => (arboristlaw42_knows.f).bind fun t => some t) true := Ends.const _
end Go.Proofs.YtphmgaijkdflnaaDoor.H
end
section
namespace Go.Proofs.YtphmgaijkdflnaaDoor.H
open Go.RowKit Go.Proofs.YtphmgaijkdflnaaDoorW.PrintWords Go.Proofs.YtphmgaijkdflnaaDoorW.PrintLast Go.Proofs.YtphmgaijkdflnaaDoorW.PrintMore
set_option linter.unusedVariables false
set_option linter.unusedSimpArgs false
theorem Ends.ite' {α : Type} {c : Prop} {d : Decidable c} {f g : Nat → Option α} {v : α} (h1 : c → Ends f v) (h2 : ¬ c → Ends g v) : Ends (fun k => @ite _ c d (f k) (g k)) v := by
  by_cases h : c
  · exact Ends.pos h (h1 h)
  · exact Ends.neg h (h2 h)
section
variable (l0_0 l0_1 : List ByteArray) (l0_2 : List Int) (l0_3 : List S58) (l0_4 : List S61)
def triG (p : S46) : Bool := ((decide (p.f0 = 1) && decide (0 ≤ p.f1)) || (decide (p.f0 = 2) && decide (p.f1 = -1)) || (decide (p.f0 = 3) && (decide (2 ≤ p.f1) && decide (p.f1 < l0_0.length)))) && !(decide (p.f2.toList = []))
theorem triG_yes {p : S46} (h : (p.f0 = 1 ∧ 0 ≤ p.f1) ∨ (p.f0 = 2 ∧ p.f1 = -1) ∨ (p.f0 = 3 ∧ 2 ≤ p.f1 ∧ p.f1 < (l0_0.length : Int))) (ht : ¬ p.f2.toList = []) : triG l0_0 p = true := by
  unfold triG
  simp only [Bool.and_eq_true, Bool.or_eq_true, decide_eq_true_eq, Bool.not_eq_true', decide_eq_false_iff_not]
  exact ⟨by omega, ht⟩
theorem triG_no1 {p : S46} (h : ¬ ((p.f0 = 1 ∧ 0 ≤ p.f1) ∨ (p.f0 = 2 ∧ p.f1 = -1) ∨ (p.f0 = 3 ∧ 2 ≤ p.f1 ∧ p.f1 < (l0_0.length : Int)))) : triG l0_0 p = false := by
  unfold triG
  rw [Bool.eq_false_iff]
  simp only [ne_eq, Bool.and_eq_true, Bool.or_eq_true, decide_eq_true_eq]
  intro q
  exact h (by omega)
theorem triG_no2 {p : S46} (h : p.f2.toList = []) : triG l0_0 p = false := by
  unfold triG
  rw [decide_eq_true h]; simp
theorem iffB {a : List UInt8} {z : Int} : ((a == ([] : List UInt8)) == (z == 0)) = true ↔ ((a = []) ↔ (z = 0)) := by
  rw [show (a == ([] : List UInt8)) = decide (a = []) from Bool.eq_iff_iff.2 (by rw [beq_iff_eq, decide_eq_true_eq]), show (z == 0) = decide (z = 0) from Bool.eq_iff_iff.2 (by rw [beq_iff_eq, decide_eq_true_eq])]
  by_cases h : a = [] <;> by_cases k : z = 0 <;> simp [h, k]
theorem glead_l0 (l : List S46) (hl : l.length ≤ 140737488355328) : ∀ (r : List S46) (i : Nat), l.drop i = r → i ≤ l.length → Ends (fun k => cst_rightLead.l0 k l (l.length : Int) (i : Int) l0_0 l0_1 l0_2 l0_3 l0_4) (r.all (triG l0_0)) := by
  intro r
  induction r with
  | nil =>
    intro i hr hi
    have e := tdrop_nil hr hi
    exact Ends.step (fun k => cst_rightLead.l0.eq_2 ..) (Ends.neg (by omega) (Ends.const _))
  | cons p r ihr =>
    intro i hr hi
    obtain ⟨hlt, hp, hr2⟩ := tdrop_cons hr
    have h3 := ihr (i + 1) hr2 hlt
    rw [← wrap_succ i (by omega)] at h3
    refine Ends.step (fun k => cst_rightLead.l0.eq_2 ..) (Ends.pos (by omega) (Ends.pos (by omega) (Ends.pos (by omega) ?_)))
    rw [rdT _ _ hlt, hp, List.all_cons]
    have yes : triG l0_0 p = true → Ends (fun k => cst_rightLead.l0 k l (l.length : Int) (wrap64 ((i : Int) + 1)) l0_0 l0_1 l0_2 l0_3 l0_4) (triG l0_0 p && r.all (triG l0_0)) := fun h => h3.val (by rw [h, Bool.true_and])
    have no : triG l0_0 p = false → Ends (fun _ => some false) (triG l0_0 p && r.all (triG l0_0)) := fun h => (Ends.const _).val (by rw [h, Bool.false_and])
    repeat' (refine Ends.ite' (fun _ => ?_) (fun _ => ?_))
    all_goals first
      | exact yes (triG_yes l0_0 (by omega) (by assumption))
      | exact no (triG_no2 l0_0 (by assumption))
      | exact no (triG_no1 l0_0 (by omega))
      | (exfalso; omega)
theorem glead_ends (l : List S46) (hl : l.length ≤ 140737488355328) : Ends (fun k => cst_rightLead.f k l0_0 l0_1 l0_2 l0_3 l0_4 l) (l.all (triG l0_0)) := glead_l0 l0_0 l0_1 l0_2 l0_3 l0_4 l hl l 0 rfl (by omega)
def leafG (y : S26) : Bool := decide (y.f1 = -1) && (decide (y.f6 = []) && (decide (y.f0 < l0_0.length) && (decide (y.f0 ≠ 1) &&
  (if y.f3 = 1 then decide (y.f0 ≠ 0) && (decide (y.f4 = []) && decide (y.f5.toList = [])) else decide (y.f3 = 0) && (decide ((y.f5.toList = []) ↔ (y.f0 = 0)) && y.f4.all (triG l0_0))))))
theorem gleaf_ends (y : S26) (hy : OkN y) : Ends (fun k => cst_rightLeaf.f k l0_0 l0_1 l0_2 l0_3 l0_4 y.f0 y.f1 y.f2 y.f3 y.f4 y.f5 y.f6) (leafG l0_0 y) := by
  unfold cst_rightLeaf.f leafG
  have jt : ∀ {b : Bool}, b = false → Ends (fun k => cst_rightLeaf.j0 k true l0_0 l0_1 l0_2 l0_3 l0_4 y.f0 y.f1 y.f2 y.f3 y.f4 y.f5 y.f6) b := fun h => h ▸ Ends.step (fun k => cst_rightLeaf.j0.eq_2 ..) (Ends.pos rfl (Ends.const _))
  by_cases h1 : y.f1 = -1
  case neg => exact Ends.neg h1 (jt (by simp [h1]))
  by_cases h6 : y.f6 = []
  case neg => exact Ends.pos h1 (Ends.pos (by have := List.length_pos_iff.2 h6; omega) (jt (by simp [h6])))
  by_cases h0 : y.f0 < (l0_0.length : Int)
  case neg => exact Ends.pos h1 (Ends.neg (by rw [h6]; simp) (Ends.pos (by omega) (jt (by simp [h0]))))
  refine Ends.pos h1 (Ends.neg (by rw [h6]; simp) (Ends.neg (by omega) ?_))
  by_cases hs : y.f0 = 1
  · rw [show (y.f0 == 1) = true by simpa using hs]; exact jt (by simp [hs])
  rw [show (y.f0 == 1) = false by simpa using hs]
  refine Ends.step (fun k => cst_rightLeaf.j0.eq_2 ..) (Ends.neg (by simp) ?_)
  by_cases h3 : y.f3 = 1
  · refine Ends.pos h3 ?_
    by_cases z : y.f0 = 0
    · exact Ends.pos z ((Ends.const _).val (by simp [h3, z]))
    · refine Ends.neg z ?_
      by_cases h4 : y.f4 = []
      · refine Ends.pos (by rw [h4]; rfl) ((Ends.const _).val ?_)
        by_cases e : y.f5.toList = [] <;> simp [h1, h6, h0, hs, h3, z, h4, e]
      · refine Ends.neg (by have := List.length_pos_iff.2 h4; omega) ((Ends.const _).val ?_)
        simp [h3, h4]
  · refine Ends.neg h3 ?_
    by_cases z : y.f3 = 0
    · refine Ends.pos z ?_
      by_cases e : (y.f5.toList = []) ↔ (y.f0 = 0)
      · refine Ends.pos (iffB.2 e) (Ends.bind (glead_ends l0_0 l0_1 l0_2 l0_3 l0_4 y.f4 hy.lead) ((Ends.const _).val ?_))
        simp [h1, h6, h0, hs, z, e]
      · refine Ends.neg (fun q => e (iffB.1 q)) ((Ends.const _).val ?_)
        simp [h3, e]
    · refine Ends.neg z ((Ends.const _).val ?_)
      simp [h3, z]
theorem rdI (l : List Int) (i : Nat) (h : i < l.length) : rd l (i : Int) = l[i] := by simp [rd, List.getD_eq_getElem?_getD, h]
theorem rdR (l : List S58) (i : Nat) (h : i < l.length) : rd_T58 l (i : Int) = l[i] := by simp [rd_T58, List.getD_eq_getElem?_getD, h]
theorem ginner_l0 (y : S26) (rr : List Int) (hl : rr.length ≤ 140737488355328) (he : rr.length = y.f6.length) : ∀ (r : List Int) (i : Nat), rr.drop i = r → i ≤ rr.length → Ends (fun k => cst_rightInner.l0 k rr (rr.length : Int) (i : Int) y.f0 y.f1 y.f2 y.f3 y.f4 y.f5 y.f6) (decide (r = (y.f6.drop i).map (·.f0))) := by
  intro r
  induction r with
  | nil =>
    intro i hr hi
    have e := tdrop_nil hr hi
    refine Ends.step (fun k => cst_rightInner.l0.eq_2 ..) (Ends.neg (by omega) ((Ends.const _).val ?_))
    rw [e, he, List.drop_length]; simp
  | cons p r ihr =>
    intro i hr hi
    obtain ⟨hlt, hp, hr2⟩ := tdrop_cons hr
    have hlt2 : i < y.f6.length := by omega
    refine Ends.step (fun k => cst_rightInner.l0.eq_2 ..) (Ends.pos (by omega) (Ends.pos (by omega) (Ends.pos (by omega) (Ends.pos (by omega) ?_))))
    rw [rdN _ _ hlt2, rdI _ _ hlt, hp, wrap_succ i (by omega), List.drop_eq_getElem_cons hlt2, List.map_cons]
    by_cases h : y.f6[i].f0 = p
    · refine Ends.pos h ((ihr (i + 1) hr2 hlt).val ?_)
      rw [decide_eq_decide, List.cons.injEq]; simp [h]
    · refine Ends.neg h ((Ends.const _).val ?_)
      symm; rw [decide_eq_false_iff_not, List.cons.injEq]; exact fun q => h q.1.symm
def innerG (y : S26) : Bool := decide (-1 - y.f0 < l0_1.length) && (decide (y.f4 = []) && (decide (y.f5.toList = []) &&
  (if y.f3 = 2 then decide (y.f1 = -1) else decide (y.f3 = 0) && (decide (0 ≤ y.f1) && (decide (y.f1 < l0_3.length) && (decide ((rd_T58 l0_3 y.f1).f0 = -1 - y.f0) && decide ((rd_T58 l0_3 y.f1).f1 = y.f6.map (·.f0))))))))
theorem ginner_ends (hr3 : ∀ z ∈ l0_3, z.f1.length ≤ 140737488355328) (y : S26) (hy : OkN y) (hn : y.f0 < 0) : Ends (fun k => cst_rightInner.f k l0_0 l0_1 l0_2 l0_3 l0_4 y.f0 y.f1 y.f2 y.f3 y.f4 y.f5 y.f6) (innerG l0_1 l0_3 y) := by
  have hk := hy.kids
  have h00 := hy.s0
  have hw : wrap64 (-1 - y.f0) = -1 - y.f0 := by unfold wrap64; omega
  unfold cst_rightInner.f innerG
  rw [hw]
  have jt : ∀ {b : Bool}, b = false → Ends (fun k => cst_rightInner.j0 k true l0_0 l0_1 l0_2 l0_3 l0_4 y.f0 y.f1 y.f2 y.f3 y.f4 y.f5 y.f6) b := fun h => h ▸ Ends.step (fun k => cst_rightInner.j0.eq_2 ..) (Ends.pos rfl (Ends.const _))
  have jt1 : ∀ {b : Bool}, b = false → Ends (fun k => cst_rightInner.j1 k true l0_0 l0_1 l0_2 l0_3 l0_4 y.f0 y.f1 y.f2 y.f3 y.f4 y.f5 y.f6) b := fun h => h ▸ Ends.step (fun k => cst_rightInner.j1.eq_2 ..) (Ends.pos rfl (Ends.const _))
  by_cases h1 : -1 - y.f0 < l0_1.length
  case neg => exact Ends.pos (by omega) (jt (by simp [h1]))
  refine Ends.neg (by omega) ?_
  by_cases h4 : y.f4 = []
  case neg => exact Ends.pos (by have := List.length_pos_iff.2 h4; omega) (jt (by simp [h4]))
  refine Ends.neg (by rw [h4]; simp) ?_
  by_cases h5 : y.f5.toList = []
  case neg => rw [show (y.f5.toList != ([] : List UInt8)) = true by simpa using h5]; exact jt (by simp [h5])
  rw [show (y.f5.toList != ([] : List UInt8)) = false by simpa using h5]
  refine Ends.step (fun k => cst_rightInner.j0.eq_2 ..) (Ends.neg (by simp) ?_)
  by_cases h3 : y.f3 = 2
  · exact Ends.pos h3 ((Ends.const _).val (by simp [h1, h4, h5, h3]; rfl))
  refine Ends.neg h3 ?_
  by_cases z : y.f3 = 0
  case neg => exact Ends.neg z (jt1 (by simp [h3, z]))
  refine Ends.pos z ?_
  by_cases g0 : 0 ≤ y.f1
  case neg => exact Ends.pos (by omega) (jt1 (by simp [h3, g0]))
  refine Ends.neg (by omega) ?_
  by_cases g1 : y.f1 < (l0_3.length : Int)
  case neg => rw [decide_eq_true (show y.f1 ≥ (l0_3.length : Int) by omega)]; exact jt1 (by simp [h3, g1])
  rw [decide_eq_false (show ¬ y.f1 ≥ (l0_3.length : Int) by omega)]
  refine Ends.step (fun k => cst_rightInner.j1.eq_2 ..) (Ends.neg (by simp) (Ends.pos g0 (Ends.pos g1 ?_)))
  have hmem : rd_T58 l0_3 y.f1 ∈ l0_3 := by
    obtain ⟨i, hi⟩ : ∃ i : Nat, y.f1 = (i : Int) := ⟨y.f1.toNat, by omega⟩
    rw [hi, rdR _ _ (by omega)]
    exact List.getElem_mem _
  have hrl := hr3 _ hmem
  obtain ⟨R, hR⟩ : ∃ R, rd_T58 l0_3 y.f1 = R := ⟨_, rfl⟩
  rw [hR] at hrl ⊢
  rw [hw]
  by_cases q : R.f0 = -1 - y.f0
  · refine Ends.pos q ?_
    by_cases e : R.f1.length = y.f6.length
    · refine Ends.step (fun k => cst_rightInner.j2.eq_2 ..) (Ends.neg (by simp; omega) ((ginner_l0 y R.f1 hrl e R.f1 0 rfl (by omega)).val ?_))
      simp [h1, h4, h5, h3, z, g0, g1, q]
    · refine Ends.step (fun k => cst_rightInner.j2.eq_2 ..) (Ends.pos (by simp; omega) ((Ends.const _).val ?_))
      have : ¬ R.f1 = y.f6.map (·.f0) := fun h => e (by rw [h, List.length_map])
      simp [h3, this]
  · exact Ends.neg q (Ends.step (fun k => cst_rightInner.j2.eq_2 ..) (Ends.pos rfl ((Ends.const _).val (by simp [h3, q]))))
def okG (y : S26) : Bool := decide (0 ≤ y.f2) && (decide (y.f0 ≠ 0) && (decide (y.f0 ≠ -1) && (if 0 < y.f0 then leafG l0_0 y else innerG l0_1 l0_3 y)))
theorem gok_ends (hr3 : ∀ z ∈ l0_3, z.f1.length ≤ 140737488355328) (y : S26) (hy : OkN y) : Ends (fun k => okGo k l0_0 l0_1 l0_2 l0_3 l0_4 y) (okG l0_0 l0_1 l0_3 y) := by
  unfold okGo okG
  by_cases h2 : y.f2 < 0
  · exact Ends.pos h2 ((Ends.const _).val (by simp; intro h; omega))
  refine Ends.neg h2 ?_
  by_cases h0 : y.f0 = 0
  · exact Ends.pos h0 ((Ends.const _).val (by simp [h0]))
  refine Ends.neg h0 ?_
  by_cases h1 : y.f0 = -1
  · exact Ends.pos h1 ((Ends.const _).val (by simp [h1]))
  refine Ends.neg h1 ?_
  have e2 : decide (0 ≤ y.f2) = true := decide_eq_true (by omega)
  by_cases h : 0 < y.f0
  · exact Ends.pos h ((gleaf_ends l0_0 l0_1 l0_2 l0_3 l0_4 y hy).val (by rw [if_pos h, e2]; simp [h0, h1]))
  · exact Ends.neg h ((ginner_ends l0_0 l0_1 l0_2 l0_3 l0_4 hr3 y hy (by omega)).val (by rw [if_neg h, e2]; simp [h0, h1]))
theorem gall_ends (hr3 : ∀ z ∈ l0_3, z.f1.length ≤ 140737488355328) : ∀ l : List S26, (∀ y ∈ l, OkN y) → Ends (fun k => allGo k l0_0 l0_1 l0_2 l0_3 l0_4 l) (l.all (okG l0_0 l0_1 l0_3))
  | [], _ => Ends.const _
  | y :: r, h => by
    unfold allGo
    refine Ends.bind (gok_ends l0_0 l0_1 l0_2 l0_3 l0_4 hr3 y (h y List.mem_cons_self)) ?_
    rw [List.all_cons]
    cases okG l0_0 l0_1 l0_3 y with
    | true => exact Ends.pos rfl ((gall_ends hr3 r fun z hz => h z (List.mem_cons_of_mem _ hz)).val (by simp))
    | false => exact Ends.neg (by simp) ((Ends.const _).val (by simp))
def headB (x : S26) : Bool := decide (x.f0 = -1) && (decide (x.f1 = 0) && (decide (x.f3 = 0) && (decide (0 ≤ x.f2) && (decide (x.f4 = []) && decide (x.f5.toList = [])))))
def kidsB : List S26 → Bool
  | [k0, k1] => decide (k0.f0 = rd (rd_T58 l0_3 0).f1 0) && (decide (k1.f0 = 0) && (leafG l0_0 k1 && (decide (0 ≤ k1.f2) && (preN k0).all (okG l0_0 l0_1 l0_3))))
  | _ => false
def rightB (x : S26) : Bool := decide (rightS l0_0 l0_1 l0_2 l0_3 l0_4 = 0) && (headB x && kidsB l0_0 l0_1 l0_3 x.f6)
theorem gkids_ends (hr3 : ∀ z ∈ l0_3, z.f1.length ≤ 140737488355328) (hp : 0 < l0_3.length ∧ 0 < (rd_T58 l0_3 0).f1.length) (l : List S26) (hl : ∀ k ∈ l, ok26 k) : Ends (fun k => kidsGo k l0_0 l0_1 l0_2 l0_3 l0_4 l) (kidsB l0_0 l0_1 l0_3 l) := by
  match l, hl with
  | [], _ => exact Ends.const _
  | [_], _ => exact Ends.const _
  | _ :: _ :: _ :: _, _ => exact Ends.const _
  | [k0, k1], hl =>
    unfold kidsGo kidsB lastGo
    dsimp only
    refine Ends.pos hp ?_
    by_cases h0 : k0.f0 = rd (rd_T58 l0_3 0).f1 0
    case neg => exact Ends.neg h0 ((Ends.const _).val (by simp [h0]))
    refine Ends.pos h0 ?_
    by_cases h1 : k1.f0 = 0
    case neg => exact Ends.neg h1 ((Ends.const _).val (by simp [h1]))
    refine Ends.pos h1 (Ends.bind (gleaf_ends l0_0 l0_1 l0_2 l0_3 l0_4 k1 (okN (hl k1 (by simp)))) ?_)
    cases hle : leafG l0_0 k1 with
    | false => exact Ends.neg (by simp) ((Ends.const _).val (by simp))
    | true =>
      refine Ends.pos rfl ?_
      by_cases h2 : k1.f2 < 0
      · exact Ends.pos h2 ((Ends.const _).val (by rw [decide_eq_false (show ¬ 0 ≤ k1.f2 by omega)]; simp))
      · refine Ends.neg h2 ((gall_ends l0_0 l0_1 l0_2 l0_3 l0_4 hr3 (preN k0) fun y hy => okN (ok_pre (hl k0 (by simp)) y hy)).val ?_)
        rw [decide_eq_true h0, decide_eq_true h1, decide_eq_true (show 0 ≤ k1.f2 by omega)]; simp
theorem right_kids (h : rightS l0_0 l0_1 l0_2 l0_3 l0_4 = 0) : 0 < l0_3.length ∧ (rd_T58 l0_3 0).f1.length = 1 := by
  have hs : startS l0_0 l0_1 l0_3 = true := by
    unfold rightS at h
    by_cases c : startS l0_0 l0_1 l0_3 = true
    · exact c
    · have c' := Bool.eq_false_iff.mpr c
      rw [c'] at h
      repeat' split at h
      all_goals first | omega | (simp at h) | contradiction
  cases l0_3 with
  | nil => cases hs
  | cons x r =>
    refine ⟨by simp, ?_⟩
    have e0 : rd_T58 (x :: r) 0 = x := rfl
    rw [e0]
    simp only [startS] at hs
    unfold startOf at hs
    split at hs
    · rename_i e; rw [e]; rfl
    · cases hs
theorem gright_ends (hg : ok40 ⟨l0_0, l0_1, l0_2, l0_3, l0_4⟩) (hl3 : l0_3.length ≤ 1100) (hl4 : ∀ z ∈ l0_4, z.f1.length ≤ 1000000) (x : S26) (hx : ok26 x) (hw : wN x ≤ 300) :
    Ends (fun k => cst_Right.f k l0_0 l0_1 l0_2 l0_3 l0_4 x.f0 x.f1 x.f2 x.f3 x.f4 x.f5 x.f6) (rightB l0_0 l0_1 l0_2 l0_3 l0_4 x) := by
  have hr3 : ∀ z ∈ l0_3, z.f1.length ≤ 140737488355328 := fun z hz => by
    have := ((ok58_iff z).1 (((ok40_iff _).1 hg).2.2.2.1.2 z hz)).2.1.1
    unfold reachBytes at this; omega
  have hgr : Ends (fun k => grammar_Right.f k l0_0 l0_1 l0_2 l0_3 l0_4) (rightS l0_0 l0_1 l0_2 l0_3 l0_4) := Ends.of_mono (fun k => grammar_Right.mono _ _ _ _ _ k) (right_ends hg hl3 hl4)
  have hps := pre_len x
  show Ends (fun k => rightGo k l0_0 l0_1 l0_2 l0_3 l0_4 ⟨x.f0, x.f1, x.f2, x.f3, x.f4, x.f5, x.f6⟩) _
  rw [show (⟨x.f0, x.f1, x.f2, x.f3, x.f4, x.f5, x.f6⟩ : S26) = x by cases x; rfl]
  unfold rightGo rightB
  refine Ends.bind hgr ?_
  by_cases h : rightS l0_0 l0_1 l0_2 l0_3 l0_4 = 0
  case neg => exact Ends.neg h ((Ends.const _).val (by simp [h]))
  have hk := right_kids l0_0 l0_1 l0_2 l0_3 l0_4 h
  refine Ends.pos h (Ends.bind0 (size_val (mild_of hw)) ?_)
  rw [decide_eq_true h, Bool.true_and]
  unfold headGo headB
  refine Ends.neg (by omega) ?_
  by_cases h0 : x.f0 = -1
  case neg => exact Ends.pos h0 ((Ends.const _).val (by simp [h0]))
  refine Ends.neg (by simpa using h0) ?_
  by_cases h1 : x.f1 = 0
  case neg => exact Ends.pos h1 ((Ends.const _).val (by simp [h1]))
  refine Ends.neg (by simpa using h1) ?_
  by_cases h3 : x.f3 = 0
  case neg => exact Ends.pos h3 ((Ends.const _).val (by simp [h3]))
  refine Ends.neg (by simpa using h3) ?_
  by_cases h2 : x.f2 < 0
  · exact Ends.pos h2 ((Ends.const _).val (by rw [decide_eq_false (show ¬ 0 ≤ x.f2 by omega)]; simp))
  refine Ends.neg h2 ?_
  by_cases h4 : x.f4 = []
  case neg => exact Ends.pos (List.length_pos_iff.2 h4) ((Ends.const _).val (by simp [h4]))
  refine Ends.neg (by rw [h4]; simp) ?_
  by_cases h5 : x.f5.toList = []
  case neg => exact Ends.pos h5 ((Ends.const _).val (by simp [h5]))
  refine Ends.neg (by simpa using h5) ((gkids_ends l0_0 l0_1 l0_2 l0_3 l0_4 hr3 ⟨hk.1, by omega⟩ x.f6 (okN hx).each).val ?_)
  rw [decide_eq_true h0, decide_eq_true h1, decide_eq_true h3, decide_eq_true (show 0 ≤ x.f2 by omega), decide_eq_true h4, decide_eq_true h5]
  simp
end
end Go.Proofs.YtphmgaijkdflnaaDoor.H
end
section
namespace Go.Proofs.YtphmgaijkdflnaaDoor.H
open Go.RowKit Go.Proofs.YtphmgaijkdflnaaDoorW.PrintWords Go.Proofs.YtphmgaijkdflnaaDoorW.PrintLast Go.Proofs.YtphmgaijkdflnaaDoorW.PrintMore
attribute [local go_sem] max2_int min2_int max_two min_two max_three min_three max_four min_four
set_option linter.unusedVariables false
set_option linter.unusedSimpArgs false
mutual
def arboristlaw42_CstWithin.j0 : Nat → Bool → Int → Int → Int → Int → List (S46) → ByteArray → List (S26) → Option (Bool)
 | 0, _, _, _, _, _, _, _, _ => none
 | k + 1, x25, x420000, x420001, x420002, x420003, x420004, x420005, x420006 => if x25 = true then ((arboristlaw42_knows.f).bind fun t424 => (some t424)) else ((cst_Leaves.f x420000 x420001 x420002 x420003 x420004 x420005 x420006).bind fun t425 => (arboristlaw42_CstWithin.l0 k t425 0))
def arboristlaw42_CstWithin.l0 : Nat → List (S26) → Int → Option (Bool)
 | 0, _, _ => none
 | k + 1, x5, x6 => if x6 < (x5.length : Int) then (if 0 ≤ x6 then (if ((((rd_T26 x5 x6).f5).toList == ([] : List UInt8)) != (x6 == (wrap64 ((x5.length : Int) - 1)))) = true then (some false) else (if ((((rd_T26 x5 x6).f0) == 0) != (x6 == (wrap64 ((x5.length : Int) - 1)))) = true then (some false) else (if ((rd_T26 x5 x6).f0) = 1 then (some false) else (arboristlaw42_CstWithin.l0 k x5 (wrap64 (x6 + 1)))))) else (none)) else (if (x5.length : Int) > 0 then ((arboristlaw42_knows.f).bind fun t431 => (some t431)) else (some false))
end
def arboristlaw42_CstWithin.f (k : Nat) (l0_0 : List ByteArray) (l0_1 : List ByteArray) (l0_2 : List Int) (l0_3 : List (S58)) (l0_4 : List (S61)) (a1_0 : Int) (a1_1 : Int) (a1_2 : Int) (a1_3 : Int) (l1_4 : List (S46)) (a1_5 : ByteArray) (l1_6 : List (S26)) : Option (Bool) := (arboristref15_Few.f k l0_0 l0_1 l0_2 l0_3 l0_4 30).bind fun t420 => (if t420 = true then ((arboristref42_Few.f k a1_0 a1_1 a1_2 a1_3 l1_4 a1_5 l1_6 300).bind fun t421 => (if t421 = true then ((cst_Right.f k l0_0 l0_1 l0_2 l0_3 l0_4 a1_0 a1_1 a1_2 a1_3 l1_4 a1_5 l1_6).bind fun t422 => (if t422 = true then ((cst_Clean.f a1_0 a1_1 a1_2 a1_3 l1_4 a1_5 l1_6).bind fun t423 => (arboristlaw42_CstWithin.j0 k (!t423) a1_0 a1_1 a1_2 a1_3 l1_4 a1_5 l1_6)) else (arboristlaw42_CstWithin.j0 k true a1_0 a1_1 a1_2 a1_3 l1_4 a1_5 l1_6))) else (arboristlaw42_CstWithin.j0 k true a1_0 a1_1 a1_2 a1_3 l1_4 a1_5 l1_6))) else (arboristlaw42_CstWithin.j0 k true a1_0 a1_1 a1_2 a1_3 l1_4 a1_5 l1_6))
set_option maxHeartbeats 8000000 in
set_option maxRecDepth 100000 in
theorem arboristlaw42_CstWithin.calls (k : Nat) (A0_0 : Option Addr) (c0_0 : Nat) (l0_0 : List ByteArray) (A0_1 : Option Addr) (c0_1 : Nat) (l0_1 : List ByteArray) (A0_2 : Option Addr) (c0_2 : Nat) (l0_2 : List Int) (A0_3 : Option Addr) (c0_3 : Nat) (l0_3 : List (S58)) (A0_4 : Option Addr) (c0_4 : Nat) (l0_4 : List (S61)) (a1_0 : Int) (a1_1 : Int) (a1_2 : Int) (a1_3 : Int) (A1_4 : Option Addr) (c1_4 : Nat) (l1_4 : List (S46)) (a1_5 : ByteArray) (A1_6 : Option Addr) (c1_6 : Nat) (l1_6 : List (S26)) (r : Bool) (w : World) (hgw : GW w) (hr0_0 : Kd.C Kd.string w A0_0 l0_0.length l0_0) (hc0_0 : l0_0.length ≤ c0_0) (hr0_1 : Kd.C Kd.string w A0_1 l0_1.length l0_1) (hc0_1 : l0_1.length ≤ c0_1) (hr0_2 : Kd.C (Kd.int .i64) w A0_2 l0_2.length l0_2) (hc0_2 : l0_2.length ≤ c0_2) (hr0_3 : Kd.C k58 w A0_3 l0_3.length l0_3) (hc0_3 : l0_3.length ≤ c0_3) (hr0_4 : Kd.C k61 w A0_4 l0_4.length l0_4) (hc0_4 : l0_4.length ≤ c0_4) (hr1_4 : Kd.C k46 w A1_4 l1_4.length l1_4) (hc1_4 : l1_4.length ≤ c1_4) (hr1_6 : Kd.C k26 w A1_6 l1_6.length l1_6) (hc1_6 : l1_6.length ≤ c1_6) (h : arboristlaw42_CstWithin.f k l0_0 l0_1 l0_2 l0_3 l0_4 a1_0 a1_1 a1_2 a1_3 l1_4 a1_5 l1_6 = some r) :
  Calls Tryd.prog 7 #[.agg #[.slice A0_0 l0_0.length c0_0, .slice A0_1 l0_1.length c0_1, .slice A0_2 l0_2.length c0_2, .slice A0_3 l0_3.length c0_3, .slice A0_4 l0_4.length c0_4], .agg #[.int .i64 a1_0, .int .i64 a1_1, .int .i64 a1_2, .int .i64 a1_3, .slice A1_4 l1_4.length c1_4, .string a1_5, .slice A1_6 l1_6.length c1_6]] w fun e w' => e = .returned (.bool r) ∧ Below w.heap.size w w' := by
 (have HGW := qM hgw); clear hgw; (have hu40 := Tryd.underlying40); (have hu26 := Tryd.underlying26); (have HR0_0 := qM hr0_0); (have HC0_0 := qM hc0_0); clear hr0_0 hc0_0; (have HR0_1 := qM hr0_1); (have HC0_1 := qM hc0_1); clear hr0_1 hc0_1; (have HR0_2 := qM hr0_2); (have HC0_2 := qM hc0_2); clear hr0_2 hc0_2; (have HR0_3 := qM hr0_3); (have HC0_3 := qM hc0_3); clear hr0_3 hc0_3; (have HR0_4 := qM hr0_4); (have HC0_4 := qM hc0_4); clear hr0_4 hc0_4; (have HR1_4 := qM hr1_4); (have HC1_4 := qM hc1_4); clear hr1_4 hc1_4; (have HR1_6 := qM hr1_6); (have HC1_6 := qM hc1_6); clear hr1_6 hc1_6; (have HB := qM (Below.refl w.heap.size w))
 have H : ((arboristref15_Few.f k l0_0 l0_1 l0_2 l0_3 l0_4 30).bind fun t420 => (if t420 = true then ((arboristref42_Few.f k a1_0 a1_1 a1_2 a1_3 l1_4 a1_5 l1_6 300).bind fun t421 => (if t421 = true then ((cst_Right.f k l0_0 l0_1 l0_2 l0_3 l0_4 a1_0 a1_1 a1_2 a1_3 l1_4 a1_5 l1_6).bind fun t422 => (if t422 = true then ((cst_Clean.f a1_0 a1_1 a1_2 a1_3 l1_4 a1_5 l1_6).bind fun t423 => (arboristlaw42_CstWithin.j0 k (!t423) a1_0 a1_1 a1_2 a1_3 l1_4 a1_5 l1_6)) else (arboristlaw42_CstWithin.j0 k true a1_0 a1_1 a1_2 a1_3 l1_4 a1_5 l1_6))) else (arboristlaw42_CstWithin.j0 k true a1_0 a1_1 a1_2 a1_3 l1_4 a1_5 l1_6))) else (arboristlaw42_CstWithin.j0 k true a1_0 a1_1 a1_2 a1_3 l1_4 a1_5 l1_6))) = some r := h
 clear h; (have HC3 := qM H); clear H; (go_enter Tryd.func7, Tryd.ntmps7)
 go_upto_region 1 with (first | ((with_reducible refine gate_dst (N := 2) rfl ?_); (try (refine gate_guard (by rfl) ?_; dsimp only)); refine box_event ?hg (N := 2) ?hd (cs := #[.slice A0_0 l0_0.length c0_0, .slice A0_1 l0_1.length c0_1, .slice A0_2 l0_2.length c0_2, .slice A0_3 l0_3.length c0_3, .slice A0_4 l0_4.length c0_4]) (t := 40) ?hr ?_; (case hd => rfl); (case hg => rfl); (case hr => first | (go_simp; done) | (go_simp; rfl)); intro gb418 hg w4 hbox hb; have n0_ := qM (qP qF hb); have n1_ := qM (hbox); have n2_ := qM ((by rw [hg]; exact (qZ qF) : w.heap.size ≤ gb418)); have n3_ := qM ((by rw [hg]; exact (qZ qF) : w.heap.size ≤ gb418)); clear HB; have HB := n0_; have BK418 := n1_; have GW418 := n2_; have GE418 := n3_; clear n0_ n1_ n2_ n3_; clear hb hbox hg) | ((with_reducible refine gate_dst (N := 3) rfl ?_); (try (refine gate_guard (by rfl) ?_; dsimp only)); refine box_event ?hg (N := 3) ?hd (cs := #[.int .i64 a1_0, .int .i64 a1_1, .int .i64 a1_2, .int .i64 a1_3, .slice A1_4 l1_4.length c1_4, .string a1_5, .slice A1_6 l1_6.length c1_6]) (t := 26) ?hr ?_; (case hd => rfl); (case hg => rfl); (case hr => first | (go_simp; done) | (go_simp; rfl)); intro gb419 hg w5 hbox hb; have n0_ := qM (qb (g := gb418) qK hb); have n1_ := qM (qP qF hb); have n2_ := qM (hbox); have n3_ := qM ((by rw [hg]; exact (qZ qF) : w.heap.size ≤ gb419)); have n4_ := qM ((by rw [hg]; exact (qZ qF) : w.heap.size ≤ gb419)); have n5_ := qM ((by rw [hg]; exact Nat.ne_of_lt (ql (g := gb418) qK) : gb418 ≠ gb419)); have n6_ := qM ((by rw [hg]; exact Nat.ne_of_gt (ql (g := gb418) qK) : gb419 ≠ gb418)); clear BK418; clear HB; have BK418 := n0_; have HB := n1_; have BK419 := n2_; have GW419 := n3_; have GE419 := n4_; have NB418_419 := n5_; have NB419_418 := n6_; clear n0_ n1_ n2_ n3_ n4_ n5_ n6_; clear hb hbox hg))
 ((try simp only [Act.put, List.setIfInBounds_toArray, List.set_cons_zero, List.set_cons_succ])); (go_cut [25] (fun v25 wc => ∃ (kq : Nat) (x25_2 : Bool), v25 = .bool x25_2 ∧ Aside0 (arboristlaw42_CstWithin.j0 kq x25_2 a1_0 a1_1 a1_2 a1_3 l1_4 a1_5 l1_6 = some r) ∧ Aside0 (kq ≤ k) ∧ Aside0 (wc.heap[gb418]? = some (.cells #[(.slice A0_0 l0_0.length c0_0), (.slice A0_1 l0_1.length c0_1), (.slice A0_2 l0_2.length c0_2), (.slice A0_3 l0_3.length c0_3), (.slice A0_4 l0_4.length c0_4)] 40 (0, 0))) ∧ Aside0 (wc.heap[gb419]? = some (.cells #[.int .i64 a1_0, .int .i64 a1_1, .int .i64 a1_2, .int .i64 a1_3, (.slice A1_4 l1_4.length c1_4), .string a1_5, (.slice A1_6 l1_6.length c1_6)] 26 (0, 0))) ∧ Aside0 (Below w.heap.size w wc)))
 case first =>
  (have H := HC3.out); clear HC3; (replace H := Option.bind_eq_some_iff.mp H); (obtain ⟨t420, A60, H⟩ := H); (replace H : (if t420 = true then ((arboristref42_Few.f k a1_0 a1_1 a1_2 a1_3 l1_4 a1_5 l1_6 300).bind fun t421 => (if t421 = true then ((cst_Right.f k l0_0 l0_1 l0_2 l0_3 l0_4 a1_0 a1_1 a1_2 a1_3 l1_4 a1_5 l1_6).bind fun t422 => (if t422 = true then ((cst_Clean.f a1_0 a1_1 a1_2 a1_3 l1_4 a1_5 l1_6).bind fun t423 => (arboristlaw42_CstWithin.j0 k (!t423) a1_0 a1_1 a1_2 a1_3 l1_4 a1_5 l1_6)) else (arboristlaw42_CstWithin.j0 k true a1_0 a1_1 a1_2 a1_3 l1_4 a1_5 l1_6))) else (arboristlaw42_CstWithin.j0 k true a1_0 a1_1 a1_2 a1_3 l1_4 a1_5 l1_6))) else (arboristlaw42_CstWithin.j0 k true a1_0 a1_1 a1_2 a1_3 l1_4 a1_5 l1_6)) = some r := H); (have A6 := qM A60); clear A60; (by_cases c7 : t420 = true)
  ·subst c7
   (have H1 : ((arboristref42_Few.f k a1_0 a1_1 a1_2 a1_3 l1_4 a1_5 l1_6 300).bind fun t421 => (if t421 = true then ((cst_Right.f k l0_0 l0_1 l0_2 l0_3 l0_4 a1_0 a1_1 a1_2 a1_3 l1_4 a1_5 l1_6).bind fun t422 => (if t422 = true then ((cst_Clean.f a1_0 a1_1 a1_2 a1_3 l1_4 a1_5 l1_6).bind fun t423 => (arboristlaw42_CstWithin.j0 k (!t423) a1_0 a1_1 a1_2 a1_3 l1_4 a1_5 l1_6)) else (arboristlaw42_CstWithin.j0 k true a1_0 a1_1 a1_2 a1_3 l1_4 a1_5 l1_6))) else (arboristlaw42_CstWithin.j0 k true a1_0 a1_1 a1_2 a1_3 l1_4 a1_5 l1_6))) = some r := by rw [if_pos rfl] at H; exact H); clear H; (have H := H1); clear H1; (replace H := Option.bind_eq_some_iff.mp H); (obtain ⟨t421, A80, H⟩ := H); (replace H : (if t421 = true then ((cst_Right.f k l0_0 l0_1 l0_2 l0_3 l0_4 a1_0 a1_1 a1_2 a1_3 l1_4 a1_5 l1_6).bind fun t422 => (if t422 = true then ((cst_Clean.f a1_0 a1_1 a1_2 a1_3 l1_4 a1_5 l1_6).bind fun t423 => (arboristlaw42_CstWithin.j0 k (!t423) a1_0 a1_1 a1_2 a1_3 l1_4 a1_5 l1_6)) else (arboristlaw42_CstWithin.j0 k true a1_0 a1_1 a1_2 a1_3 l1_4 a1_5 l1_6))) else (arboristlaw42_CstWithin.j0 k true a1_0 a1_1 a1_2 a1_3 l1_4 a1_5 l1_6)) = some r := H); (have A8 := qM A80); clear A80; (by_cases c9 : t421 = true)
   ·subst c9
    (have H1 : ((cst_Right.f k l0_0 l0_1 l0_2 l0_3 l0_4 a1_0 a1_1 a1_2 a1_3 l1_4 a1_5 l1_6).bind fun t422 => (if t422 = true then ((cst_Clean.f a1_0 a1_1 a1_2 a1_3 l1_4 a1_5 l1_6).bind fun t423 => (arboristlaw42_CstWithin.j0 k (!t423) a1_0 a1_1 a1_2 a1_3 l1_4 a1_5 l1_6)) else (arboristlaw42_CstWithin.j0 k true a1_0 a1_1 a1_2 a1_3 l1_4 a1_5 l1_6))) = some r := by rw [if_pos rfl] at H; exact H); clear H; (have H := H1); clear H1; (replace H := Option.bind_eq_some_iff.mp H); (obtain ⟨t422, A100, H⟩ := H); (replace H : (if t422 = true then ((cst_Clean.f a1_0 a1_1 a1_2 a1_3 l1_4 a1_5 l1_6).bind fun t423 => (arboristlaw42_CstWithin.j0 k (!t423) a1_0 a1_1 a1_2 a1_3 l1_4 a1_5 l1_6)) else (arboristlaw42_CstWithin.j0 k true a1_0 a1_1 a1_2 a1_3 l1_4 a1_5 l1_6)) = some r := H); (have A10 := qM A100); clear A100; (by_cases c11 : t422 = true)
    ·subst c11
     (have H1 : ((cst_Clean.f a1_0 a1_1 a1_2 a1_3 l1_4 a1_5 l1_6).bind fun t423 => (arboristlaw42_CstWithin.j0 k (!t423) a1_0 a1_1 a1_2 a1_3 l1_4 a1_5 l1_6)) = some r := by rw [if_pos rfl] at H; exact H); clear H; (have H := H1); clear H1; (replace H := Option.bind_eq_some_iff.mp H); (obtain ⟨t423, A120, H⟩ := H); (replace H : (arboristlaw42_CstWithin.j0 k (!t423) a1_0 a1_1 a1_2 a1_3 l1_4 a1_5 l1_6) = some r := H); (have A12 := qM A120); clear A120; (have H' := qM H); clear H; (have hnb13 := NB418_419.out); (have hnc13 := NB419_418.out); (obtain ⟨hcz14_0, hcz14_1, hcz14_2, hcz14_3, hcz14_4, hfz14_0, hfz14_1, hfz14_2, hfz14_3, hfz14_4⟩ := bx5 BK418.out)
     go_wp2_with (first | ((with_reducible refine gate_callee (f := 23) rfl ?_); refine goesL_ (some 8) rfl rfl Tryd.func23 (by kernel_rfl) rfl #[.agg #[.slice A0_0 l0_0.length c0_0, .slice A0_1 l0_1.length c0_1, .slice A0_2 l0_2.length c0_2, .slice A0_3 l0_3.length c0_3, .slice A0_4 l0_4.length c0_4], .int .i64 30] rfl (by (try simp only [List.map_toArray, List.map_cons, List.map_nil]); first | done | rfl | (simp only [List.length_drop, List.length_take]; rfl)) ?_; (with_reducible refine (arboristref15_Few.calls k _ _ l0_0 _ _ l0_1 _ _ l0_2 _ _ l0_3 _ _ l0_4 30 true _ ?side1 ?side2 ?side3 ?side4 ?side5 ?side6 ?side7 ?side8 ?side9 ?side10 A6.out).mono ?_); (case side1 => exact qC HR0_0.out qF); (case side2 => exact HC0_0.out); (case side3 => exact qC HR0_1.out qF); (case side4 => exact HC0_1.out); (case side5 => exact qC HR0_2.out qF); (case side6 => exact HC0_2.out); (case side7 => exact qC HR0_3.out qF); (case side8 => exact HC0_3.out); (case side9 => exact qC HR0_4.out qF); (case side10 => exact HC0_4.out); rintro e w15 ⟨rfl, hb⟩; refine ⟨_, rfl, ?_⟩; have n0_ := qM (qb (g := gb418) qK hb); have n1_ := qM (qb (g := gb419) qK hb); have n2_ := qM (qP qF hb); clear BK418; clear BK419; clear HB; have BK418 := n0_; have BK419 := n1_; have HB := n2_; clear n0_ n1_ n2_; (try clear hb); (try clear hb2); (try clear hk); (try clear hi); obtain ⟨hcz16_0, hcz16_1, hcz16_2, hcz16_3, hcz16_4, hcz16_5, hcz16_6, hfz16_0, hfz16_1, hfz16_2, hfz16_3, hfz16_4, hfz16_5, hfz16_6⟩ := bx7 BK419.out) | (go_at_call 8; (with_reducible refine (arboristref42_Few.calls k a1_0 a1_1 a1_2 a1_3 _ _ l1_4 a1_5 _ _ l1_6 300 true _ ?side1 ?side2 ?side3 ?side4 A8.out).mono ?_); (case side1 => exact qC HR1_4.out qF); (case side2 => exact HC1_4.out); (case side3 => exact qC HR1_6.out qF); (case side4 => exact HC1_6.out); rintro e w17 ⟨rfl, hb⟩; have n0_ := qM (qb (g := gb418) qK hb); have n1_ := qM (qb (g := gb419) qK hb); have n2_ := qM (qP qF hb); clear BK418; clear BK419; clear HB; have BK418 := n0_; have BK419 := n1_; have HB := n2_; clear n0_ n1_ n2_; (try clear hb); (try clear hb2); (try clear hk); (try clear hi); obtain ⟨hcz18_0, hcz18_1, hcz18_2, hcz18_3, hcz18_4, hfz18_0, hfz18_1, hfz18_2, hfz18_3, hfz18_4⟩ := bx5 BK418.out; obtain ⟨hcz19_0, hcz19_1, hcz19_2, hcz19_3, hcz19_4, hcz19_5, hcz19_6, hfz19_0, hfz19_1, hfz19_2, hfz19_3, hfz19_4, hfz19_5, hfz19_6⟩ := bx7 BK419.out) | (go_at_call 24; (with_reducible refine (cst_Right.calls k _ _ l0_0 _ _ l0_1 _ _ l0_2 _ _ l0_3 _ _ l0_4 a1_0 a1_1 a1_2 a1_3 _ _ l1_4 a1_5 _ _ l1_6 true _ ?side1 ?side2 ?side3 ?side4 ?side5 ?side6 ?side7 ?side8 ?side9 ?side10 ?side11 ?side12 ?side13 ?side14 A10.out).mono ?_); (case side1 => exact qC HR0_0.out qF); (case side2 => exact HC0_0.out); (case side3 => exact qC HR0_1.out qF); (case side4 => exact HC0_1.out); (case side5 => exact qC HR0_2.out qF); (case side6 => exact HC0_2.out); (case side7 => exact qC HR0_3.out qF); (case side8 => exact HC0_3.out); (case side9 => exact qC HR0_4.out qF); (case side10 => exact HC0_4.out); (case side11 => exact qC HR1_4.out qF); (case side12 => exact HC1_4.out); (case side13 => exact qC HR1_6.out qF); (case side14 => exact HC1_6.out); rintro e w20 ⟨rfl, hb⟩; have n0_ := qM (qb (g := gb418) qK hb); have n1_ := qM (qb (g := gb419) qK hb); have n2_ := qM (qP qF hb); clear BK418; clear BK419; clear HB; have BK418 := n0_; have BK419 := n1_; have HB := n2_; clear n0_ n1_ n2_; (try clear hb); (try clear hb2); (try clear hk); (try clear hi); obtain ⟨hcz21_0, hcz21_1, hcz21_2, hcz21_3, hcz21_4, hcz21_5, hcz21_6, hfz21_0, hfz21_1, hfz21_2, hfz21_3, hfz21_4, hfz21_5, hfz21_6⟩ := bx7 BK419.out) | (go_at_call 19; (with_reducible refine (cst_Clean.calls a1_0 a1_1 a1_2 a1_3 _ _ l1_4 a1_5 _ _ l1_6 t423 _ ?side1 ?side2 ?side3 ?side4 A12.out).mono ?_); (case side1 => exact qC HR1_4.out qF); (case side2 => exact HC1_4.out); (case side3 => exact qC HR1_6.out qF); (case side4 => exact HC1_6.out); rintro e w22 ⟨rfl, hb⟩; have n0_ := qM (qb (g := gb418) qK hb); have n1_ := qM (qb (g := gb419) qK hb); have n2_ := qM (qP qF hb); clear BK418; clear BK419; clear HB; have BK418 := n0_; have BK419 := n1_; have HB := n2_; clear n0_ n1_ n2_; (try clear hb); (try clear hb2); (try clear hk); (try clear hi)))
     go_meet
     case rel => exact ⟨_, (!t423), qV, H', ⟨by first | omega | exact Nat.le_refl _⟩, ⟨qK⟩, ⟨qK⟩, ⟨qF⟩⟩
    ·replace c11 := Bool.eq_false_iff.mpr c11
     subst c11; (have H1 : (arboristlaw42_CstWithin.j0 k true a1_0 a1_1 a1_2 a1_3 l1_4 a1_5 l1_6) = some r := by rw [if_neg (show ¬ (false = true) by decide)] at H; exact H); clear H; (have H := H1); clear H1; (have H' := qM H); clear H; (have hnb23 := NB418_419.out); (have hnc23 := NB419_418.out); (obtain ⟨hcz24_0, hcz24_1, hcz24_2, hcz24_3, hcz24_4, hfz24_0, hfz24_1, hfz24_2, hfz24_3, hfz24_4⟩ := bx5 BK418.out)
     go_wp2_with (first | ((with_reducible refine gate_callee (f := 23) rfl ?_); refine goesL_ (some 8) rfl rfl Tryd.func23 (by kernel_rfl) rfl #[.agg #[.slice A0_0 l0_0.length c0_0, .slice A0_1 l0_1.length c0_1, .slice A0_2 l0_2.length c0_2, .slice A0_3 l0_3.length c0_3, .slice A0_4 l0_4.length c0_4], .int .i64 30] rfl (by (try simp only [List.map_toArray, List.map_cons, List.map_nil]); first | done | rfl | (simp only [List.length_drop, List.length_take]; rfl)) ?_; (with_reducible refine (arboristref15_Few.calls k _ _ l0_0 _ _ l0_1 _ _ l0_2 _ _ l0_3 _ _ l0_4 30 true _ ?side1 ?side2 ?side3 ?side4 ?side5 ?side6 ?side7 ?side8 ?side9 ?side10 A6.out).mono ?_); (case side1 => exact qC HR0_0.out qF); (case side2 => exact HC0_0.out); (case side3 => exact qC HR0_1.out qF); (case side4 => exact HC0_1.out); (case side5 => exact qC HR0_2.out qF); (case side6 => exact HC0_2.out); (case side7 => exact qC HR0_3.out qF); (case side8 => exact HC0_3.out); (case side9 => exact qC HR0_4.out qF); (case side10 => exact HC0_4.out); rintro e w25 ⟨rfl, hb⟩; refine ⟨_, rfl, ?_⟩; have n0_ := qM (qb (g := gb418) qK hb); have n1_ := qM (qb (g := gb419) qK hb); have n2_ := qM (qP qF hb); clear BK418; clear BK419; clear HB; have BK418 := n0_; have BK419 := n1_; have HB := n2_; clear n0_ n1_ n2_; (try clear hb); (try clear hb2); (try clear hk); (try clear hi); obtain ⟨hcz26_0, hcz26_1, hcz26_2, hcz26_3, hcz26_4, hcz26_5, hcz26_6, hfz26_0, hfz26_1, hfz26_2, hfz26_3, hfz26_4, hfz26_5, hfz26_6⟩ := bx7 BK419.out) | (go_at_call 8; (with_reducible refine (arboristref42_Few.calls k a1_0 a1_1 a1_2 a1_3 _ _ l1_4 a1_5 _ _ l1_6 300 true _ ?side1 ?side2 ?side3 ?side4 A8.out).mono ?_); (case side1 => exact qC HR1_4.out qF); (case side2 => exact HC1_4.out); (case side3 => exact qC HR1_6.out qF); (case side4 => exact HC1_6.out); rintro e w27 ⟨rfl, hb⟩; have n0_ := qM (qb (g := gb418) qK hb); have n1_ := qM (qb (g := gb419) qK hb); have n2_ := qM (qP qF hb); clear BK418; clear BK419; clear HB; have BK418 := n0_; have BK419 := n1_; have HB := n2_; clear n0_ n1_ n2_; (try clear hb); (try clear hb2); (try clear hk); (try clear hi); obtain ⟨hcz28_0, hcz28_1, hcz28_2, hcz28_3, hcz28_4, hfz28_0, hfz28_1, hfz28_2, hfz28_3, hfz28_4⟩ := bx5 BK418.out; obtain ⟨hcz29_0, hcz29_1, hcz29_2, hcz29_3, hcz29_4, hcz29_5, hcz29_6, hfz29_0, hfz29_1, hfz29_2, hfz29_3, hfz29_4, hfz29_5, hfz29_6⟩ := bx7 BK419.out) | (go_at_call 24; (with_reducible refine (cst_Right.calls k _ _ l0_0 _ _ l0_1 _ _ l0_2 _ _ l0_3 _ _ l0_4 a1_0 a1_1 a1_2 a1_3 _ _ l1_4 a1_5 _ _ l1_6 false _ ?side1 ?side2 ?side3 ?side4 ?side5 ?side6 ?side7 ?side8 ?side9 ?side10 ?side11 ?side12 ?side13 ?side14 A10.out).mono ?_); (case side1 => exact qC HR0_0.out qF); (case side2 => exact HC0_0.out); (case side3 => exact qC HR0_1.out qF); (case side4 => exact HC0_1.out); (case side5 => exact qC HR0_2.out qF); (case side6 => exact HC0_2.out); (case side7 => exact qC HR0_3.out qF); (case side8 => exact HC0_3.out); (case side9 => exact qC HR0_4.out qF); (case side10 => exact HC0_4.out); (case side11 => exact qC HR1_4.out qF); (case side12 => exact HC1_4.out); (case side13 => exact qC HR1_6.out qF); (case side14 => exact HC1_6.out); rintro e w30 ⟨rfl, hb⟩; have n0_ := qM (qb (g := gb418) qK hb); have n1_ := qM (qb (g := gb419) qK hb); have n2_ := qM (qP qF hb); clear BK418; clear BK419; clear HB; have BK418 := n0_; have BK419 := n1_; have HB := n2_; clear n0_ n1_ n2_; (try clear hb); (try clear hb2); (try clear hk); (try clear hi)))
     go_meet
     case rel => exact ⟨_, (true), qV, H', ⟨by first | omega | exact Nat.le_refl _⟩, ⟨qK⟩, ⟨qK⟩, ⟨qF⟩⟩
   ·replace c9 := Bool.eq_false_iff.mpr c9
    subst c9; (have H1 : (arboristlaw42_CstWithin.j0 k true a1_0 a1_1 a1_2 a1_3 l1_4 a1_5 l1_6) = some r := by rw [if_neg (show ¬ (false = true) by decide)] at H; exact H); clear H; (have H := H1); clear H1; (have H' := qM H); clear H; (have hnb31 := NB418_419.out); (have hnc31 := NB419_418.out); (obtain ⟨hcz32_0, hcz32_1, hcz32_2, hcz32_3, hcz32_4, hfz32_0, hfz32_1, hfz32_2, hfz32_3, hfz32_4⟩ := bx5 BK418.out)
    go_wp2_with (first | ((with_reducible refine gate_callee (f := 23) rfl ?_); refine goesL_ (some 8) rfl rfl Tryd.func23 (by kernel_rfl) rfl #[.agg #[.slice A0_0 l0_0.length c0_0, .slice A0_1 l0_1.length c0_1, .slice A0_2 l0_2.length c0_2, .slice A0_3 l0_3.length c0_3, .slice A0_4 l0_4.length c0_4], .int .i64 30] rfl (by (try simp only [List.map_toArray, List.map_cons, List.map_nil]); first | done | rfl | (simp only [List.length_drop, List.length_take]; rfl)) ?_; (with_reducible refine (arboristref15_Few.calls k _ _ l0_0 _ _ l0_1 _ _ l0_2 _ _ l0_3 _ _ l0_4 30 true _ ?side1 ?side2 ?side3 ?side4 ?side5 ?side6 ?side7 ?side8 ?side9 ?side10 A6.out).mono ?_); (case side1 => exact qC HR0_0.out qF); (case side2 => exact HC0_0.out); (case side3 => exact qC HR0_1.out qF); (case side4 => exact HC0_1.out); (case side5 => exact qC HR0_2.out qF); (case side6 => exact HC0_2.out); (case side7 => exact qC HR0_3.out qF); (case side8 => exact HC0_3.out); (case side9 => exact qC HR0_4.out qF); (case side10 => exact HC0_4.out); rintro e w33 ⟨rfl, hb⟩; refine ⟨_, rfl, ?_⟩; have n0_ := qM (qb (g := gb418) qK hb); have n1_ := qM (qb (g := gb419) qK hb); have n2_ := qM (qP qF hb); clear BK418; clear BK419; clear HB; have BK418 := n0_; have BK419 := n1_; have HB := n2_; clear n0_ n1_ n2_; (try clear hb); (try clear hb2); (try clear hk); (try clear hi); obtain ⟨hcz34_0, hcz34_1, hcz34_2, hcz34_3, hcz34_4, hcz34_5, hcz34_6, hfz34_0, hfz34_1, hfz34_2, hfz34_3, hfz34_4, hfz34_5, hfz34_6⟩ := bx7 BK419.out) | (go_at_call 8; (with_reducible refine (arboristref42_Few.calls k a1_0 a1_1 a1_2 a1_3 _ _ l1_4 a1_5 _ _ l1_6 300 false _ ?side1 ?side2 ?side3 ?side4 A8.out).mono ?_); (case side1 => exact qC HR1_4.out qF); (case side2 => exact HC1_4.out); (case side3 => exact qC HR1_6.out qF); (case side4 => exact HC1_6.out); rintro e w35 ⟨rfl, hb⟩; have n0_ := qM (qb (g := gb418) qK hb); have n1_ := qM (qb (g := gb419) qK hb); have n2_ := qM (qP qF hb); clear BK418; clear BK419; clear HB; have BK418 := n0_; have BK419 := n1_; have HB := n2_; clear n0_ n1_ n2_; (try clear hb); (try clear hb2); (try clear hk); (try clear hi)))
    go_meet
    case rel => exact ⟨_, (true), qV, H', ⟨by first | omega | exact Nat.le_refl _⟩, ⟨qK⟩, ⟨qK⟩, ⟨qF⟩⟩
  ·replace c7 := Bool.eq_false_iff.mpr c7
   subst c7; (have H1 : (arboristlaw42_CstWithin.j0 k true a1_0 a1_1 a1_2 a1_3 l1_4 a1_5 l1_6) = some r := by rw [if_neg (show ¬ (false = true) by decide)] at H; exact H); clear H; (have H := H1); clear H1; (have H' := qM H); clear H; (have hnb36 := NB418_419.out); (have hnc36 := NB419_418.out); (obtain ⟨hcz37_0, hcz37_1, hcz37_2, hcz37_3, hcz37_4, hfz37_0, hfz37_1, hfz37_2, hfz37_3, hfz37_4⟩ := bx5 BK418.out)
   go_wp2_with (first | ((with_reducible refine gate_callee (f := 23) rfl ?_); refine goesL_ (some 8) rfl rfl Tryd.func23 (by kernel_rfl) rfl #[.agg #[.slice A0_0 l0_0.length c0_0, .slice A0_1 l0_1.length c0_1, .slice A0_2 l0_2.length c0_2, .slice A0_3 l0_3.length c0_3, .slice A0_4 l0_4.length c0_4], .int .i64 30] rfl (by (try simp only [List.map_toArray, List.map_cons, List.map_nil]); first | done | rfl | (simp only [List.length_drop, List.length_take]; rfl)) ?_; (with_reducible refine (arboristref15_Few.calls k _ _ l0_0 _ _ l0_1 _ _ l0_2 _ _ l0_3 _ _ l0_4 30 false _ ?side1 ?side2 ?side3 ?side4 ?side5 ?side6 ?side7 ?side8 ?side9 ?side10 A6.out).mono ?_); (case side1 => exact qC HR0_0.out qF); (case side2 => exact HC0_0.out); (case side3 => exact qC HR0_1.out qF); (case side4 => exact HC0_1.out); (case side5 => exact qC HR0_2.out qF); (case side6 => exact HC0_2.out); (case side7 => exact qC HR0_3.out qF); (case side8 => exact HC0_3.out); (case side9 => exact qC HR0_4.out qF); (case side10 => exact HC0_4.out); rintro e w38 ⟨rfl, hb⟩; refine ⟨_, rfl, ?_⟩; have n0_ := qM (qb (g := gb418) qK hb); have n1_ := qM (qb (g := gb419) qK hb); have n2_ := qM (qP qF hb); clear BK418; clear BK419; clear HB; have BK418 := n0_; have BK419 := n1_; have HB := n2_; clear n0_ n1_ n2_; (try clear hb); (try clear hb2); (try clear hk); (try clear hi)))
   go_meet
   case rel => exact ⟨_, (true), qV, H', ⟨by first | omega | exact Nat.le_refl _⟩, ⟨qK⟩, ⟨qK⟩, ⟨qF⟩⟩
 case rest =>
  clear HC3; (try clear c1); (try clear c2); (try clear p2); (try clear c3); (try clear c7); (try clear c9); (try clear c11); (try clear c13); (try clear c23); (try clear c31); (try clear c36); (try clear hcz14_0 hcz14_1 hcz14_2 hcz14_3 hcz14_4); (try clear hcz16_0 hcz16_1 hcz16_2 hcz16_3 hcz16_4 hcz16_5 hcz16_6); (try clear hcz18_0 hcz18_1 hcz18_2 hcz18_3 hcz18_4); (try clear hcz19_0 hcz19_1 hcz19_2 hcz19_3 hcz19_4 hcz19_5 hcz19_6); (try clear hcz21_0 hcz21_1 hcz21_2 hcz21_3 hcz21_4 hcz21_5 hcz21_6); (try clear hcz24_0 hcz24_1 hcz24_2 hcz24_3 hcz24_4); (try clear hcz26_0 hcz26_1 hcz26_2 hcz26_3 hcz26_4 hcz26_5 hcz26_6); (try clear hcz28_0 hcz28_1 hcz28_2 hcz28_3 hcz28_4); (try clear hcz29_0 hcz29_1 hcz29_2 hcz29_3 hcz29_4 hcz29_5 hcz29_6); (try clear hcz32_0 hcz32_1 hcz32_2 hcz32_3 hcz32_4); (try clear hcz34_0 hcz34_1 hcz34_2 hcz34_3 hcz34_4 hcz34_5 hcz34_6); (try clear hcz37_0 hcz37_1 hcz37_2 hcz37_3 hcz37_4); (try clear hfz14_0 hfz14_1 hfz14_2 hfz14_3 hfz14_4); (try clear hfz16_0 hfz16_1 hfz16_2 hfz16_3 hfz16_4 hfz16_5 hfz16_6); (try clear hfz18_0 hfz18_1 hfz18_2 hfz18_3 hfz18_4); (try clear hfz19_0 hfz19_1 hfz19_2 hfz19_3 hfz19_4 hfz19_5 hfz19_6); (try clear hfz21_0 hfz21_1 hfz21_2 hfz21_3 hfz21_4 hfz21_5 hfz21_6); (try clear hfz24_0 hfz24_1 hfz24_2 hfz24_3 hfz24_4); (try clear hfz26_0 hfz26_1 hfz26_2 hfz26_3 hfz26_4 hfz26_5 hfz26_6); (try clear hfz28_0 hfz28_1 hfz28_2 hfz28_3 hfz28_4); (try clear hfz29_0 hfz29_1 hfz29_2 hfz29_3 hfz29_4 hfz29_5 hfz29_6); (try clear hfz32_0 hfz32_1 hfz32_2 hfz32_3 hfz32_4); (try clear hfz34_0 hfz34_1 hfz34_2 hfz34_3 hfz34_4 hfz34_5 hfz34_6); (try clear hfz37_0 hfz37_1 hfz37_2 hfz37_3 hfz37_4); (obtain ⟨kq, x25_2, rfl, HA, HJ2, BK418, BK419, HB⟩ := hcut)
  cases kq with
  | zero => exact absurd HA.out (by simp [arboristlaw42_CstWithin.j0])
  | succ kj2 =>
   (have H := HA.out); clear HA; (simp only [arboristlaw42_CstWithin.j0] at H); (by_cases c39 : x25_2 = true)
   ·subst c39
    (have H1 : ((arboristlaw42_knows.f).bind fun t424 => (some t424)) = some r := by rw [if_pos rfl] at H; exact H); clear H; (have H := H1); clear H1; (replace H := Option.bind_eq_some_iff.mp H); (obtain ⟨t424, A400, H⟩ := H); (replace H : (some t424) = some r := H); (have A40 := qM A400); clear A400; (obtain rfl := Option.some.inj H)
    go_wp2_with (first | ((with_reducible refine gate_callee (f := 9) rfl ?_); refine goesL_ (some 26) rfl rfl Tryd.func9 (by kernel_rfl) rfl #[] rfl (by (try simp only [List.map_toArray, List.map_cons, List.map_nil]); first | done | rfl | (simp only [List.length_drop, List.length_take]; rfl)) ?_; (with_reducible refine (arboristlaw42_knows.calls  t424 _ ?side1 A40.out).mono ?_); (case side1 => exact GW.below HGW.out qF); rintro e w41 ⟨rfl, hb⟩; refine ⟨_, rfl, ?_⟩; have n0_ := qM (qb (g := gb418) qK hb); have n1_ := qM (qb (g := gb419) qK hb); have n2_ := qM (qP qF hb); clear BK418; clear BK419; clear HB; have BK418 := n0_; have BK419 := n1_; have HB := n2_; clear n0_ n1_ n2_; (try clear hb); (try clear hb2); (try clear hk); (try clear hi)))
    (go_ret); (exact ⟨qE, qF⟩)
   ·replace c39 := Bool.eq_false_iff.mpr c39
    subst c39; (have H1 : ((cst_Leaves.f a1_0 a1_1 a1_2 a1_3 l1_4 a1_5 l1_6).bind fun t425 => (arboristlaw42_CstWithin.l0 kj2 t425 0)) = some r := by rw [if_neg (show ¬ (false = true) by decide)] at H; exact H); clear H; (have H := H1); clear H1; (replace H := Option.bind_eq_some_iff.mp H); (obtain ⟨t425, A420, H⟩ := H); (replace H : (arboristlaw42_CstWithin.l0 kj2 t425 0) = some r := H); (have A42 := qM A420); clear A420; (have H' := qM H); clear H; (have hnb43 := NB419_418.out); (have hnc43 := NB418_419.out); (obtain ⟨hcz44_0, hcz44_1, hcz44_2, hcz44_3, hcz44_4, hcz44_5, hcz44_6, hfz44_0, hfz44_1, hfz44_2, hfz44_3, hfz44_4, hfz44_5, hfz44_6⟩ := bx7 BK419.out)
    go_wp2_with (first | ((with_reducible refine gate_callee (f := 17) rfl ?_); refine goesL_ (some 28) rfl rfl Tryd.func17 (by kernel_rfl) rfl #[.agg #[.int .i64 a1_0, .int .i64 a1_1, .int .i64 a1_2, .int .i64 a1_3, .slice A1_4 l1_4.length c1_4, .string a1_5, .slice A1_6 l1_6.length c1_6]] rfl (by (try simp only [List.map_toArray, List.map_cons, List.map_nil]); first | done | rfl | (simp only [List.length_drop, List.length_take]; rfl)) ?_; (with_reducible refine (cst_Leaves.calls a1_0 a1_1 a1_2 a1_3 _ _ l1_4 a1_5 _ _ l1_6 t425 _ ?side1 ?side2 ?side3 ?side4 A42.out).mono ?_); (case side1 => exact qC HR1_4.out qF); (case side2 => exact HC1_4.out); (case side3 => exact qC HR1_6.out qF); (case side4 => exact HC1_6.out); rintro e w45 ⟨v426, rfl, ho0, hb⟩; refine ⟨_, rfl, ?_⟩; have n0_ := qM (Kd.R_lower (Kd.R_newB ho0 (g := gb419) qK) (qZ qF)); have n1_ := qM (qb (g := gb418) qK hb); have n2_ := qM (qb (g := gb419) qK hb); have n3_ := qM (qP qF hb); clear BK418; clear BK419; clear HB; have HO427 := n0_; have BK418 := n1_; have BK419 := n2_; have HB := n3_; clear n0_ n1_ n2_ n3_; (try clear hb); (try clear hb2); (try clear hk); (try clear hi); (try clear ho0)))
    go_loopg [6] kj2 (fun kq v6 w' => ∃ (x6_2 : Int), v6 = .int .i64 x6_2 ∧ Aside0 (arboristlaw42_CstWithin.l0 kq t425 x6_2 = some r) ∧ Aside0 (kq ≤ kj2) ∧ Aside0 (Kd.R k26 26 w' w.heap.size (fun k_ => k_ ≠ gb419) v426 t425) ∧ Aside0 (w'.heap[gb418]? = some (.cells #[(.slice A0_0 l0_0.length c0_0), (.slice A0_1 l0_1.length c0_1), (.slice A0_2 l0_2.length c0_2), (.slice A0_3 l0_3.length c0_3), (.slice A0_4 l0_4.length c0_4)] 40 (0, 0))) ∧ Aside0 (w'.heap[gb419]? = some (.cells #[.int .i64 a1_0, .int .i64 a1_1, .int .i64 a1_2, .int .i64 a1_3, (.slice A1_4 l1_4.length c1_4), .string a1_5, (.slice A1_6 l1_6.length c1_6)] 26 (0, 0))) ∧ Aside0 (Below w.heap.size w w'))
    case atStart => exact ⟨(0), qV, H', ⟨Nat.le_refl _⟩, ⟨by (with_reducible repeat (first | apply Kd.R_alloc | apply Kd.R_drewN | apply Kd.R_drew)); exact Kd.R_mono HO427.out (fun _ hk => hk.2)⟩, ⟨qK⟩, ⟨qK⟩, ⟨qF⟩⟩
    case round =>
     (clear H'); (try clear c1); (try clear c2); (try clear p2); (try clear c3); (try clear c4); (try clear c7); (try clear c9); (try clear c11); (try clear c13); (try clear c17); (try clear c23); (try clear c31); (try clear c36); (try clear c39); (try clear c43); (try clear hcz14_0 hcz14_1 hcz14_2 hcz14_3 hcz14_4); (try clear hcz16_0 hcz16_1 hcz16_2 hcz16_3 hcz16_4 hcz16_5 hcz16_6); (try clear hcz18_0 hcz18_1 hcz18_2 hcz18_3 hcz18_4); (try clear hcz19_0 hcz19_1 hcz19_2 hcz19_3 hcz19_4 hcz19_5 hcz19_6); (try clear hcz21_0 hcz21_1 hcz21_2 hcz21_3 hcz21_4 hcz21_5 hcz21_6); (try clear hcz24_0 hcz24_1 hcz24_2 hcz24_3 hcz24_4); (try clear hcz26_0 hcz26_1 hcz26_2 hcz26_3 hcz26_4 hcz26_5 hcz26_6); (try clear hcz28_0 hcz28_1 hcz28_2 hcz28_3 hcz28_4); (try clear hcz29_0 hcz29_1 hcz29_2 hcz29_3 hcz29_4 hcz29_5 hcz29_6); (try clear hcz32_0 hcz32_1 hcz32_2 hcz32_3 hcz32_4); (try clear hcz34_0 hcz34_1 hcz34_2 hcz34_3 hcz34_4 hcz34_5 hcz34_6); (try clear hcz37_0 hcz37_1 hcz37_2 hcz37_3 hcz37_4); (try clear hcz44_0 hcz44_1 hcz44_2 hcz44_3 hcz44_4 hcz44_5 hcz44_6); (try clear hfz14_0 hfz14_1 hfz14_2 hfz14_3 hfz14_4); (try clear hfz16_0 hfz16_1 hfz16_2 hfz16_3 hfz16_4 hfz16_5 hfz16_6); (try clear hfz18_0 hfz18_1 hfz18_2 hfz18_3 hfz18_4); (try clear hfz19_0 hfz19_1 hfz19_2 hfz19_3 hfz19_4 hfz19_5 hfz19_6); (try clear hfz21_0 hfz21_1 hfz21_2 hfz21_3 hfz21_4 hfz21_5 hfz21_6); (try clear hfz24_0 hfz24_1 hfz24_2 hfz24_3 hfz24_4); (try clear hfz26_0 hfz26_1 hfz26_2 hfz26_3 hfz26_4 hfz26_5 hfz26_6); (try clear hfz28_0 hfz28_1 hfz28_2 hfz28_3 hfz28_4); (try clear hfz29_0 hfz29_1 hfz29_2 hfz29_3 hfz29_4 hfz29_5 hfz29_6); (try clear hfz32_0 hfz32_1 hfz32_2 hfz32_3 hfz32_4); (try clear hfz34_0 hfz34_1 hfz34_2 hfz34_3 hfz34_4 hfz34_5 hfz34_6); (try clear hfz37_0 hfz37_1 hfz37_2 hfz37_3 hfz37_4); (try clear hfz44_0 hfz44_1 hfz44_2 hfz44_3 hfz44_4 hfz44_5 hfz44_6); (try clear p2); (obtain ⟨x6_2, rfl, HA, HK2, HO_5, BK418, BK419, HB⟩ := hrel)
     cases gk with
     | zero => exact absurd HA.out (by simp [arboristlaw42_CstWithin.l0])
     | succ k2 =>
      (have H := HA.out); clear HA; (simp only [arboristlaw42_CstWithin.l0] at H); (by_cases c46 : x6_2 < (t425.length : Int))
      ·rw [if_pos c46] at H
       (have c46b0 : decide (x6_2 < (t425.length : Int)) = true := decide_eq_true c46); clear c46; (by_cases c47 : 0 ≤ x6_2)
       ·rw [if_pos c47] at H
        (have c47b0 : decide (0 ≤ x6_2) = true := decide_eq_true c47); clear c47; (by_cases c48 : ((((rd_T26 t425 x6_2).f5).toList == ([] : List UInt8)) != (x6_2 == (wrap64 ((t425.length : Int) - 1)))) = true)
        ·rw [if_pos c48] at H
         (have c48b0 : ((((rd_T26 t425 x6_2).f5).toList == ([] : List UInt8)) != (x6_2 == (wrap64 ((t425.length : Int) - 1)))) = true := c48); (have c48b0f : (((rd_T26 t425 x6_2).f5).toList.isEmpty == (x6_2 == (wrap64 ((t425.length : Int) - 1)))) = false := by have h_ := c48b0; rw [show (((rd_T26 t425 x6_2).f5).toList == ([] : List UInt8)) = ((rd_T26 t425 x6_2).f5).toList.isEmpty from by cases ((rd_T26 t425 x6_2).f5).toList <;> rfl] at h_; simpa using h_); (have c48b0g : decide (((rd_T26 t425 x6_2).f5).toList.isEmpty = (x6_2 == (wrap64 ((t425.length : Int) - 1)))) = false := by have h_ := c48b0f; simpa using h_); (have c48b0e : (((rd_T26 t425 x6_2).f5).toList.isEmpty != (x6_2 == (wrap64 ((t425.length : Int) - 1)))) = true := by rw [show ((rd_T26 t425 x6_2).f5).toList.isEmpty = (((rd_T26 t425 x6_2).f5).toList == ([] : List UInt8)) from by cases ((rd_T26 t425 x6_2).f5).toList <;> rfl]; exact c48b0); ((try (have c48b1 : decide ((((rd_T26 t425 x6_2).f5).toList == ([] : List UInt8)) = (x6_2 == (wrap64 ((t425.length : Int) - 1)))) = false := by simpa using c48))); ((try (have c48b2 : ((((rd_T26 t425 x6_2).f5).toList == ([] : List UInt8)) == (x6_2 == (wrap64 ((t425.length : Int) - 1)))) = false := by simpa using c48))); ((try (have c48b3 : ¬ ((((rd_T26 t425 x6_2).f5).toList == ([] : List UInt8)) = (x6_2 == (wrap64 ((t425.length : Int) - 1)))) := by simpa using c48))); clear c48; (obtain rfl := Option.some.inj H); (obtain ⟨Ao49, co49, eo49⟩ := Kd.R_slice HO_5.out); subst eo49; (have p428 : 0 ≤ (x6_2 : Int) := qo qX); (have q428 : x6_2 < (t425.length : Int) := qo qX); (obtain ⟨ad428, A428_4, c428_4, A428_6, c428_6, e428, hx428_0, hx428_1, hx428_2, hx428_3, hx428_4, hx428_5, hx428_6, hl428_4, hi428_4, hl428_6, hi428_6⟩ := at_T26 (Kd.R_reads' HO_5.out).2.2 x6_2 p428 q428)
         cases e428
         (obtain ⟨ce428, hce428, hMe428, hcc428⟩ := Kd.R_get HO_5.out z26 x6_2 p428 (by first | exact q428 | exact qo qX | (have e_ := (Kd.R_reads' HO_5.out).1; omega))); (obtain ⟨ve428_4, ve428_6, rfl, ge428_4, ge428_6⟩ := k26_openM hMe428); (have hv428_4 := hcc428 4 _ rfl); (rw [add_field _ _ 4 (by omega)] at hv428_4); (replace hv428_4 := Option.some.inj (hv428_4.symm.trans hx428_4)); (rw [hv428_4] at ge428_4); (have HL428_4 := qM (show Kd.R k46 46 _ _ _ _ ((rd_T26 t425 x6_2).f4) from ge428_4)); clear hv428_4 ge428_4; (have hv428_6 := hcc428 6 _ rfl); (rw [add_field _ _ 6 (by omega)] at hv428_6); (replace hv428_6 := Option.some.inj (hv428_6.symm.trans hx428_6)); (rw [hv428_6] at ge428_6); (have HL428_6 := qM (show Kd.R k26 26 _ _ _ _ ((rd_T26 t425 x6_2).f6) from ge428_6)); clear hv428_6 ge428_6 hcc428 hce428; (have HR428_4 := qM hi428_4); (have HC428_4 := qM hl428_4); clear hi428_4 hl428_4; (have HR428_6 := qM hi428_6); (have HC428_6 := qM hl428_6); clear hi428_6 hl428_6; (replace p428 := eq_true p428); (replace q428 := eq_true q428); go_wp2; (go_ret); (exact ⟨qE, qF⟩)
        ·rw [if_neg c48] at H
         (have c48b0 : ((((rd_T26 t425 x6_2).f5).toList == ([] : List UInt8)) != (x6_2 == (wrap64 ((t425.length : Int) - 1)))) = false := by simpa using c48); (have c48b0f : (((rd_T26 t425 x6_2).f5).toList.isEmpty == (x6_2 == (wrap64 ((t425.length : Int) - 1)))) = true := by have h_ := c48b0; rw [show (((rd_T26 t425 x6_2).f5).toList == ([] : List UInt8)) = ((rd_T26 t425 x6_2).f5).toList.isEmpty from by cases ((rd_T26 t425 x6_2).f5).toList <;> rfl] at h_; simpa using h_); (have c48b0g : decide (((rd_T26 t425 x6_2).f5).toList.isEmpty = (x6_2 == (wrap64 ((t425.length : Int) - 1)))) = true := by have h_ := c48b0f; simpa using h_); (have c48b0e : (((rd_T26 t425 x6_2).f5).toList.isEmpty != (x6_2 == (wrap64 ((t425.length : Int) - 1)))) = false := by rw [show ((rd_T26 t425 x6_2).f5).toList.isEmpty = (((rd_T26 t425 x6_2).f5).toList == ([] : List UInt8)) from by cases ((rd_T26 t425 x6_2).f5).toList <;> rfl]; exact c48b0); ((try (have c48b1 : decide ((((rd_T26 t425 x6_2).f5).toList == ([] : List UInt8)) = (x6_2 == (wrap64 ((t425.length : Int) - 1)))) = true := by simpa using c48))); ((try (have c48b2 : ((((rd_T26 t425 x6_2).f5).toList == ([] : List UInt8)) == (x6_2 == (wrap64 ((t425.length : Int) - 1)))) = true := by simpa using c48))); clear c48; (by_cases c50 : ((((rd_T26 t425 x6_2).f0) == 0) != (x6_2 == (wrap64 ((t425.length : Int) - 1)))) = true)
         ·rw [if_pos c50] at H
          (have c50b0 : ((((rd_T26 t425 x6_2).f0) == 0) != (x6_2 == (wrap64 ((t425.length : Int) - 1)))) = true := c50); ((try (have c50b1 : decide ((((rd_T26 t425 x6_2).f0) == 0) = (x6_2 == (wrap64 ((t425.length : Int) - 1)))) = false := by simpa using c50))); ((try (have c50b2 : ((((rd_T26 t425 x6_2).f0) == 0) == (x6_2 == (wrap64 ((t425.length : Int) - 1)))) = false := by simpa using c50))); ((try (have c50b3 : ¬ ((((rd_T26 t425 x6_2).f0) == 0) = (x6_2 == (wrap64 ((t425.length : Int) - 1)))) := by simpa using c50))); clear c50; (obtain rfl := Option.some.inj H); (obtain ⟨Ao51, co51, eo51⟩ := Kd.R_slice HO_5.out); subst eo51; (have p428 : 0 ≤ (x6_2 : Int) := qo qX); (have q428 : x6_2 < (t425.length : Int) := qo qX); (obtain ⟨ad428, A428_4, c428_4, A428_6, c428_6, e428, hx428_0, hx428_1, hx428_2, hx428_3, hx428_4, hx428_5, hx428_6, hl428_4, hi428_4, hl428_6, hi428_6⟩ := at_T26 (Kd.R_reads' HO_5.out).2.2 x6_2 p428 q428)
          cases e428
          (obtain ⟨ce428, hce428, hMe428, hcc428⟩ := Kd.R_get HO_5.out z26 x6_2 p428 (by first | exact q428 | exact qo qX | (have e_ := (Kd.R_reads' HO_5.out).1; omega))); (obtain ⟨ve428_4, ve428_6, rfl, ge428_4, ge428_6⟩ := k26_openM hMe428); (have hv428_4 := hcc428 4 _ rfl); (rw [add_field _ _ 4 (by omega)] at hv428_4); (replace hv428_4 := Option.some.inj (hv428_4.symm.trans hx428_4)); (rw [hv428_4] at ge428_4); (have HL428_4 := qM (show Kd.R k46 46 _ _ _ _ ((rd_T26 t425 x6_2).f4) from ge428_4)); clear hv428_4 ge428_4; (have hv428_6 := hcc428 6 _ rfl); (rw [add_field _ _ 6 (by omega)] at hv428_6); (replace hv428_6 := Option.some.inj (hv428_6.symm.trans hx428_6)); (rw [hv428_6] at ge428_6); (have HL428_6 := qM (show Kd.R k26 26 _ _ _ _ ((rd_T26 t425 x6_2).f6) from ge428_6)); clear hv428_6 ge428_6 hcc428 hce428; (have HR428_4 := qM hi428_4); (have HC428_4 := qM hl428_4); clear hi428_4 hl428_4; (have HR428_6 := qM hi428_6); (have HC428_6 := qM hl428_6); clear hi428_6 hl428_6; (replace p428 := eq_true p428); (replace q428 := eq_true q428); (have p429 : 0 ≤ (x6_2 : Int) := qo qX); (have q429 : x6_2 < (t425.length : Int) := qo qX); (obtain ⟨ad429, A429_4, c429_4, A429_6, c429_6, e429, hx429_0, hx429_1, hx429_2, hx429_3, hx429_4, hx429_5, hx429_6, hl429_4, hi429_4, hl429_6, hi429_6⟩ := at_T26 (Kd.R_reads' HO_5.out).2.2 x6_2 p429 q429); (obtain rfl : ad428 = ad429 := (by injection e429)); (obtain ⟨ce429, hce429, hMe429, hcc429⟩ := Kd.R_get HO_5.out z26 x6_2 p429 (by first | exact q429 | exact qo qX | (have e_ := (Kd.R_reads' HO_5.out).1; omega))); (obtain ⟨ve429_4, ve429_6, rfl, ge429_4, ge429_6⟩ := k26_openM hMe429); (have hv429_4 := hcc429 4 _ rfl); (rw [add_field _ _ 4 (by omega)] at hv429_4); (replace hv429_4 := Option.some.inj (hv429_4.symm.trans hx429_4)); (rw [hv429_4] at ge429_4); (have HL429_4 := qM (show Kd.R k46 46 _ _ _ _ ((rd_T26 t425 x6_2).f4) from ge429_4)); clear hv429_4 ge429_4; (have hv429_6 := hcc429 6 _ rfl); (rw [add_field _ _ 6 (by omega)] at hv429_6); (replace hv429_6 := Option.some.inj (hv429_6.symm.trans hx429_6)); (rw [hv429_6] at ge429_6); (have HL429_6 := qM (show Kd.R k26 26 _ _ _ _ ((rd_T26 t425 x6_2).f6) from ge429_6)); clear hv429_6 ge429_6 hcc429 hce429; (have HR429_4 := qM hi429_4); (have HC429_4 := qM hl429_4)
          clear hi429_4 hl429_4; (have HR429_6 := qM hi429_6); (have HC429_6 := qM hl429_6); clear hi429_6 hl429_6; (replace p429 := eq_true p429); (replace q429 := eq_true q429); (have ea_ := Option.some.inj (hx428_4.symm.trans hx429_4)); (injection ea_ with ea_ en_ ec_); subst ea_; subst ec_; clear en_; (have ea_ := Option.some.inj (hx428_6.symm.trans hx429_6)); (injection ea_ with ea_ en_ ec_); subst ea_; subst ec_; clear en_; go_wp2; (go_ret); (exact ⟨qE, qF⟩)
         ·rw [if_neg c50] at H
          (have c50b0 : ((((rd_T26 t425 x6_2).f0) == 0) != (x6_2 == (wrap64 ((t425.length : Int) - 1)))) = false := by simpa using c50); ((try (have c50b1 : decide ((((rd_T26 t425 x6_2).f0) == 0) = (x6_2 == (wrap64 ((t425.length : Int) - 1)))) = true := by simpa using c50))); ((try (have c50b2 : ((((rd_T26 t425 x6_2).f0) == 0) == (x6_2 == (wrap64 ((t425.length : Int) - 1)))) = true := by simpa using c50))); clear c50; (by_cases c52 : ((rd_T26 t425 x6_2).f0) = 1)
          ·rw [if_pos c52] at H
           (have c52b0 : (((rd_T26 t425 x6_2).f0) == 1) = true := beq_iff_eq.mpr c52); (have c52b1 : (((rd_T26 t425 x6_2).f0) != 1) = false := bne_eq_false_iff_eq.mpr c52); clear c52; (obtain rfl := Option.some.inj H); (obtain ⟨Ao53, co53, eo53⟩ := Kd.R_slice HO_5.out); subst eo53; (have p428 : 0 ≤ (x6_2 : Int) := qo qX); (have q428 : x6_2 < (t425.length : Int) := qo qX); (obtain ⟨ad428, A428_4, c428_4, A428_6, c428_6, e428, hx428_0, hx428_1, hx428_2, hx428_3, hx428_4, hx428_5, hx428_6, hl428_4, hi428_4, hl428_6, hi428_6⟩ := at_T26 (Kd.R_reads' HO_5.out).2.2 x6_2 p428 q428)
           cases e428
           (obtain ⟨ce428, hce428, hMe428, hcc428⟩ := Kd.R_get HO_5.out z26 x6_2 p428 (by first | exact q428 | exact qo qX | (have e_ := (Kd.R_reads' HO_5.out).1; omega))); (obtain ⟨ve428_4, ve428_6, rfl, ge428_4, ge428_6⟩ := k26_openM hMe428); (have hv428_4 := hcc428 4 _ rfl); (rw [add_field _ _ 4 (by omega)] at hv428_4); (replace hv428_4 := Option.some.inj (hv428_4.symm.trans hx428_4)); (rw [hv428_4] at ge428_4); (have HL428_4 := qM (show Kd.R k46 46 _ _ _ _ ((rd_T26 t425 x6_2).f4) from ge428_4)); clear hv428_4 ge428_4; (have hv428_6 := hcc428 6 _ rfl); (rw [add_field _ _ 6 (by omega)] at hv428_6); (replace hv428_6 := Option.some.inj (hv428_6.symm.trans hx428_6)); (rw [hv428_6] at ge428_6); (have HL428_6 := qM (show Kd.R k26 26 _ _ _ _ ((rd_T26 t425 x6_2).f6) from ge428_6)); clear hv428_6 ge428_6 hcc428 hce428; (have HR428_4 := qM hi428_4); (have HC428_4 := qM hl428_4); clear hi428_4 hl428_4; (have HR428_6 := qM hi428_6); (have HC428_6 := qM hl428_6); clear hi428_6 hl428_6; (replace p428 := eq_true p428); (replace q428 := eq_true q428); (have p429 : 0 ≤ (x6_2 : Int) := qo qX); (have q429 : x6_2 < (t425.length : Int) := qo qX); (obtain ⟨ad429, A429_4, c429_4, A429_6, c429_6, e429, hx429_0, hx429_1, hx429_2, hx429_3, hx429_4, hx429_5, hx429_6, hl429_4, hi429_4, hl429_6, hi429_6⟩ := at_T26 (Kd.R_reads' HO_5.out).2.2 x6_2 p429 q429); (obtain rfl : ad428 = ad429 := (by injection e429)); (obtain ⟨ce429, hce429, hMe429, hcc429⟩ := Kd.R_get HO_5.out z26 x6_2 p429 (by first | exact q429 | exact qo qX | (have e_ := (Kd.R_reads' HO_5.out).1; omega))); (obtain ⟨ve429_4, ve429_6, rfl, ge429_4, ge429_6⟩ := k26_openM hMe429); (have hv429_4 := hcc429 4 _ rfl); (rw [add_field _ _ 4 (by omega)] at hv429_4); (replace hv429_4 := Option.some.inj (hv429_4.symm.trans hx429_4)); (rw [hv429_4] at ge429_4); (have HL429_4 := qM (show Kd.R k46 46 _ _ _ _ ((rd_T26 t425 x6_2).f4) from ge429_4)); clear hv429_4 ge429_4; (have hv429_6 := hcc429 6 _ rfl); (rw [add_field _ _ 6 (by omega)] at hv429_6); (replace hv429_6 := Option.some.inj (hv429_6.symm.trans hx429_6)); (rw [hv429_6] at ge429_6); (have HL429_6 := qM (show Kd.R k26 26 _ _ _ _ ((rd_T26 t425 x6_2).f6) from ge429_6)); clear hv429_6 ge429_6 hcc429 hce429; (have HR429_4 := qM hi429_4); (have HC429_4 := qM hl429_4)
           clear hi429_4 hl429_4; (have HR429_6 := qM hi429_6); (have HC429_6 := qM hl429_6); clear hi429_6 hl429_6; (replace p429 := eq_true p429); (replace q429 := eq_true q429); (have ea_ := Option.some.inj (hx428_4.symm.trans hx429_4)); (injection ea_ with ea_ en_ ec_); subst ea_; subst ec_; clear en_; (have ea_ := Option.some.inj (hx428_6.symm.trans hx429_6)); (injection ea_ with ea_ en_ ec_); subst ea_; subst ec_; clear en_; (have p430 : 0 ≤ (x6_2 : Int) := qo qX); (have q430 : x6_2 < (t425.length : Int) := qo qX); (obtain ⟨ad430, A430_4, c430_4, A430_6, c430_6, e430, hx430_0, hx430_1, hx430_2, hx430_3, hx430_4, hx430_5, hx430_6, hl430_4, hi430_4, hl430_6, hi430_6⟩ := at_T26 (Kd.R_reads' HO_5.out).2.2 x6_2 p430 q430); (obtain rfl : ad428 = ad430 := (by injection e430)); (obtain ⟨ce430, hce430, hMe430, hcc430⟩ := Kd.R_get HO_5.out z26 x6_2 p430 (by first | exact q430 | exact qo qX | (have e_ := (Kd.R_reads' HO_5.out).1; omega))); (obtain ⟨ve430_4, ve430_6, rfl, ge430_4, ge430_6⟩ := k26_openM hMe430); (have hv430_4 := hcc430 4 _ rfl); (rw [add_field _ _ 4 (by omega)] at hv430_4); (replace hv430_4 := Option.some.inj (hv430_4.symm.trans hx430_4)); (rw [hv430_4] at ge430_4); (have HL430_4 := qM (show Kd.R k46 46 _ _ _ _ ((rd_T26 t425 x6_2).f4) from ge430_4)); clear hv430_4 ge430_4; (have hv430_6 := hcc430 6 _ rfl); (rw [add_field _ _ 6 (by omega)] at hv430_6); (replace hv430_6 := Option.some.inj (hv430_6.symm.trans hx430_6)); (rw [hv430_6] at ge430_6); (have HL430_6 := qM (show Kd.R k26 26 _ _ _ _ ((rd_T26 t425 x6_2).f6) from ge430_6)); clear hv430_6 ge430_6 hcc430 hce430; (have HR430_4 := qM hi430_4); (have HC430_4 := qM hl430_4); clear hi430_4 hl430_4; (have HR430_6 := qM hi430_6); (have HC430_6 := qM hl430_6); clear hi430_6 hl430_6; (replace p430 := eq_true p430); (replace q430 := eq_true q430); (have ea_ := Option.some.inj (hx428_4.symm.trans hx430_4)); (injection ea_ with ea_ en_ ec_); subst ea_; subst ec_; clear en_; (have ea_ := Option.some.inj (hx428_6.symm.trans hx430_6)); (injection ea_ with ea_ en_ ec_); subst ea_; subst ec_; clear en_; go_wp2; (go_ret); (exact ⟨qE, qF⟩)
          ·rw [if_neg c52] at H
           (have c52b0 : (((rd_T26 t425 x6_2).f0) == 1) = false := beq_eq_false_iff_ne.mpr c52); (have c52b1 : (((rd_T26 t425 x6_2).f0) != 1) = true := bne_iff_ne.mpr c52); (have H' := qM H); clear H; (obtain ⟨Ao54, co54, eo54⟩ := Kd.R_slice HO_5.out); subst eo54; (have p428 : 0 ≤ (x6_2 : Int) := qo qX); (have q428 : x6_2 < (t425.length : Int) := qo qX); (obtain ⟨ad428, A428_4, c428_4, A428_6, c428_6, e428, hx428_0, hx428_1, hx428_2, hx428_3, hx428_4, hx428_5, hx428_6, hl428_4, hi428_4, hl428_6, hi428_6⟩ := at_T26 (Kd.R_reads' HO_5.out).2.2 x6_2 p428 q428)
           cases e428
           (obtain ⟨ce428, hce428, hMe428, hcc428⟩ := Kd.R_get HO_5.out z26 x6_2 p428 (by first | exact q428 | exact qo qX | (have e_ := (Kd.R_reads' HO_5.out).1; omega))); (obtain ⟨ve428_4, ve428_6, rfl, ge428_4, ge428_6⟩ := k26_openM hMe428); (have hv428_4 := hcc428 4 _ rfl); (rw [add_field _ _ 4 (by omega)] at hv428_4); (replace hv428_4 := Option.some.inj (hv428_4.symm.trans hx428_4)); (rw [hv428_4] at ge428_4); (have HL428_4 := qM (show Kd.R k46 46 _ _ _ _ ((rd_T26 t425 x6_2).f4) from ge428_4)); clear hv428_4 ge428_4; (have hv428_6 := hcc428 6 _ rfl); (rw [add_field _ _ 6 (by omega)] at hv428_6); (replace hv428_6 := Option.some.inj (hv428_6.symm.trans hx428_6)); (rw [hv428_6] at ge428_6); (have HL428_6 := qM (show Kd.R k26 26 _ _ _ _ ((rd_T26 t425 x6_2).f6) from ge428_6)); clear hv428_6 ge428_6 hcc428 hce428; (have HR428_4 := qM hi428_4); (have HC428_4 := qM hl428_4); clear hi428_4 hl428_4; (have HR428_6 := qM hi428_6); (have HC428_6 := qM hl428_6); clear hi428_6 hl428_6; (replace p428 := eq_true p428); (replace q428 := eq_true q428); (have p429 : 0 ≤ (x6_2 : Int) := qo qX); (have q429 : x6_2 < (t425.length : Int) := qo qX); (obtain ⟨ad429, A429_4, c429_4, A429_6, c429_6, e429, hx429_0, hx429_1, hx429_2, hx429_3, hx429_4, hx429_5, hx429_6, hl429_4, hi429_4, hl429_6, hi429_6⟩ := at_T26 (Kd.R_reads' HO_5.out).2.2 x6_2 p429 q429); (obtain rfl : ad428 = ad429 := (by injection e429)); (obtain ⟨ce429, hce429, hMe429, hcc429⟩ := Kd.R_get HO_5.out z26 x6_2 p429 (by first | exact q429 | exact qo qX | (have e_ := (Kd.R_reads' HO_5.out).1; omega))); (obtain ⟨ve429_4, ve429_6, rfl, ge429_4, ge429_6⟩ := k26_openM hMe429); (have hv429_4 := hcc429 4 _ rfl); (rw [add_field _ _ 4 (by omega)] at hv429_4); (replace hv429_4 := Option.some.inj (hv429_4.symm.trans hx429_4)); (rw [hv429_4] at ge429_4); (have HL429_4 := qM (show Kd.R k46 46 _ _ _ _ ((rd_T26 t425 x6_2).f4) from ge429_4)); clear hv429_4 ge429_4; (have hv429_6 := hcc429 6 _ rfl); (rw [add_field _ _ 6 (by omega)] at hv429_6); (replace hv429_6 := Option.some.inj (hv429_6.symm.trans hx429_6)); (rw [hv429_6] at ge429_6); (have HL429_6 := qM (show Kd.R k26 26 _ _ _ _ ((rd_T26 t425 x6_2).f6) from ge429_6)); clear hv429_6 ge429_6 hcc429 hce429; (have HR429_4 := qM hi429_4); (have HC429_4 := qM hl429_4)
           clear hi429_4 hl429_4; (have HR429_6 := qM hi429_6); (have HC429_6 := qM hl429_6); clear hi429_6 hl429_6; (replace p429 := eq_true p429); (replace q429 := eq_true q429); (have ea_ := Option.some.inj (hx428_4.symm.trans hx429_4)); (injection ea_ with ea_ en_ ec_); subst ea_; subst ec_; clear en_; (have ea_ := Option.some.inj (hx428_6.symm.trans hx429_6)); (injection ea_ with ea_ en_ ec_); subst ea_; subst ec_; clear en_; (have p430 : 0 ≤ (x6_2 : Int) := qo qX); (have q430 : x6_2 < (t425.length : Int) := qo qX); (obtain ⟨ad430, A430_4, c430_4, A430_6, c430_6, e430, hx430_0, hx430_1, hx430_2, hx430_3, hx430_4, hx430_5, hx430_6, hl430_4, hi430_4, hl430_6, hi430_6⟩ := at_T26 (Kd.R_reads' HO_5.out).2.2 x6_2 p430 q430); (obtain rfl : ad428 = ad430 := (by injection e430)); (obtain ⟨ce430, hce430, hMe430, hcc430⟩ := Kd.R_get HO_5.out z26 x6_2 p430 (by first | exact q430 | exact qo qX | (have e_ := (Kd.R_reads' HO_5.out).1; omega))); (obtain ⟨ve430_4, ve430_6, rfl, ge430_4, ge430_6⟩ := k26_openM hMe430); (have hv430_4 := hcc430 4 _ rfl); (rw [add_field _ _ 4 (by omega)] at hv430_4); (replace hv430_4 := Option.some.inj (hv430_4.symm.trans hx430_4)); (rw [hv430_4] at ge430_4); (have HL430_4 := qM (show Kd.R k46 46 _ _ _ _ ((rd_T26 t425 x6_2).f4) from ge430_4)); clear hv430_4 ge430_4; (have hv430_6 := hcc430 6 _ rfl); (rw [add_field _ _ 6 (by omega)] at hv430_6); (replace hv430_6 := Option.some.inj (hv430_6.symm.trans hx430_6)); (rw [hv430_6] at ge430_6); (have HL430_6 := qM (show Kd.R k26 26 _ _ _ _ ((rd_T26 t425 x6_2).f6) from ge430_6)); clear hv430_6 ge430_6 hcc430 hce430; (have HR430_4 := qM hi430_4); (have HC430_4 := qM hl430_4); clear hi430_4 hl430_4; (have HR430_6 := qM hi430_6); (have HC430_6 := qM hl430_6); clear hi430_6 hl430_6; (replace p430 := eq_true p430); (replace q430 := eq_true q430); (have ea_ := Option.some.inj (hx428_4.symm.trans hx430_4)); (injection ea_ with ea_ en_ ec_); subst ea_; subst ec_; clear en_; (have ea_ := Option.some.inj (hx428_6.symm.trans hx430_6)); (injection ea_ with ea_ en_ ec_); subst ea_; subst ec_; clear en_; go_wp2; (go_roundg k2)
           case measure => have := HJ2.out; have := HK2.out; omega
           case rel => exact ⟨(wrap64 (x6_2 + 1)), qV, H', ⟨by have := HJ2.out; have := HK2.out; omega⟩, ⟨by (with_reducible repeat (first | apply Kd.R_alloc | apply Kd.R_drewN | apply Kd.R_drew)); exact HO_5.out⟩, ⟨qK⟩, ⟨qK⟩, ⟨qF⟩⟩
       ·rw [if_neg c47] at H
        exact absurd H (by simp)
      ·rw [if_neg c46] at H
       (have c46b0 : decide (x6_2 < (t425.length : Int)) = false := decide_eq_false c46); clear c46; (by_cases c55 : (t425.length : Int) > 0)
       ·rw [if_pos c55] at H
        (have c55b0 : decide (0 < (t425.length : Int)) = true := decide_eq_true c55); (have c55b1 : decide (0 < t425.length) = true := decide_eq_true (by omega)); clear c55; (replace H := Option.bind_eq_some_iff.mp H); (obtain ⟨t431, A560, H⟩ := H); (replace H : (some t431) = some r := H); (have A56 := qM A560); clear A560; (obtain rfl := Option.some.inj H); (obtain ⟨Ao57, co57, eo57⟩ := Kd.R_slice HO_5.out); subst eo57
        go_wp2_with (first | (go_at_call 9; (with_reducible refine (arboristlaw42_knows.calls  t431 _ ?side1 A56.out).mono ?_); (case side1 => exact GW.below HGW.out qF); rintro e w58 ⟨rfl, hb⟩; have n0_ := qM (Kd.R_below (by (with_reducible repeat (first | apply Kd.R_alloc | apply Kd.R_drewN | apply Kd.R_drew)); exact HO_5.out) hb); have n1_ := qM (qb (g := gb418) qK hb); have n2_ := qM (qb (g := gb419) qK hb); have n3_ := qM (qP qF hb); clear HO_5; clear BK418; clear BK419; clear HB; have HO_5 := n0_; have BK418 := n1_; have BK419 := n2_; have HB := n3_; clear n0_ n1_ n2_ n3_; (try clear hb); (try clear hb2); (try clear hk); (try clear hi)))
        (go_ret); (exact ⟨qE, qF⟩)
       ·rw [if_neg c55] at H
        (have c55b0 : decide (0 < (t425.length : Int)) = false := decide_eq_false c55); (have c55b1 : decide (0 < t425.length) = false := decide_eq_false (by omega)); clear c55; (obtain rfl := Option.some.inj H); (obtain ⟨Ao59, co59, eo59⟩ := Kd.R_slice HO_5.out); subst eo59; go_wp2; (go_ret); (exact ⟨qE, qF⟩)
end Go.Proofs.YtphmgaijkdflnaaDoor.H
end
section
namespace Go.Proofs.YtphmgaijkdflnaaDoor.H
open Go.RowKit Go.Proofs.YtphmgaijkdflnaaDoorW.PrintWords Go.Proofs.YtphmgaijkdflnaaDoorW.PrintLast Go.Proofs.YtphmgaijkdflnaaDoorW.PrintMore
set_option linter.unusedVariables false
set_option linter.unusedSimpArgs false
theorem within_l0 (A : List S26) (z : S26) (hA : ∀ a ∈ A, ¬ a.f5.toList = [] ∧ a.f0 ≠ 0 ∧ a.f0 ≠ 1) (hz : z.f5.toList = [] ∧ z.f0 = 0) (hl : A.length ≤ 100000) : ∀ (d i : Nat), i + d = A.length + 1 → Ends (fun k => arboristlaw42_CstWithin.l0 k (A ++ [z]) (i : Int)) true := by
  have hlen : (A ++ [z]).length = A.length + 1 := by simp
  have hwr : wrap64 (((A ++ [z]).length : Int) - 1) = (A.length : Int) := by rw [hlen]; unfold wrap64; omega
  intro d
  induction d with
  | zero =>
    intro i hi
    exact Ends.step (fun k => arboristlaw42_CstWithin.l0.eq_2 ..) (Ends.neg (by omega) (Ends.pos (by omega) knows_ends))
  | succ d ih =>
    intro i hi
    have hlt : i < (A ++ [z]).length := by omega
    refine Ends.step (fun k => arboristlaw42_CstWithin.l0.eq_2 ..) (Ends.pos (by omega) (Ends.pos (by omega) ?_))
    rw [rdN _ _ hlt, hwr, wrap_succ i (by omega)]
    have h3 := ih (i + 1) (by omega)
    by_cases he : i = A.length
    · have ez : (A ++ [z])[i] = z := by subst he; simp
      rw [ez]
      refine Ends.neg ?_ (Ends.neg ?_ (Ends.neg ?_ h3))
      · rw [hz.1, he]; simp
      · rw [hz.2, he]; simp
      · rw [hz.2]; omega
    · have ea : (A ++ [z])[i] ∈ A := by rw [List.getElem_append_left (by omega)]; exact List.getElem_mem _
      obtain ⟨a1, a2, a3⟩ := hA _ ea
      have e1 : ((i : Int) == (A.length : Int)) = false := by rw [beq_eq_false_iff_ne]; omega
      refine Ends.neg ?_ (Ends.neg ?_ (Ends.neg a3 h3))
      · rw [e1, show ((A ++ [z])[i].f5.toList == ([] : List UInt8)) = false by simpa using a1]; simp
      · rw [e1, show ((A ++ [z])[i].f0 == 0) = false by simpa using a2]; simp
theorem leaves_of (l0_0 l0_1 : List ByteArray) (l0_2 : List Int) (l0_3 : List S58) (l0_4 : List S61) (x : S26) (hr : rightB l0_0 l0_1 l0_2 l0_3 l0_4 x = true) (hc : (preN x).all cleanN = true) :
    ∃ (A : List S26) (z : S26), leavesN x = A ++ [z] ∧ (∀ a ∈ A, ¬ a.f5.toList = [] ∧ a.f0 ≠ 0 ∧ a.f0 ≠ 1) ∧ (z.f5.toList = [] ∧ z.f0 = 0) := by
  unfold rightB headB at hr
  simp only [Bool.and_eq_true, decide_eq_true_eq] at hr
  obtain ⟨_, ⟨h0, _⟩, hk⟩ := hr
  rw [preN_eq, List.all_cons, Bool.and_eq_true] at hc
  have hc2 := hc.2
  unfold leavesN
  rw [preN_eq, List.filter_cons_of_neg (by rw [h0]; simp)]
  unfold kidsB at hk
  split at hk
  case h_2 => cases hk
  rename_i k0 k1 e6
  rw [e6] at hc2 ⊢
  simp only [Bool.and_eq_true, decide_eq_true_eq] at hk
  obtain ⟨_, hz0, hleaf, _, hall⟩ := hk
  simp only [preL, List.append_nil] at hc2 ⊢
  rw [List.all_append, Bool.and_eq_true] at hc2
  unfold leafG at hleaf
  simp only [Bool.and_eq_true, decide_eq_true_eq] at hleaf
  obtain ⟨_, e16, _, _, hl5⟩ := hleaf
  have ek1 : preN k1 = [k1] := by rw [preN_eq, e16]; rfl
  rw [ek1] at hc2 ⊢
  have hcz : k1.f3 = 0 := by
    have := hc2.2
    simp only [List.all_cons, List.all_nil, Bool.and_true] at this
    unfold cleanN at this
    simp only [Bool.and_eq_true, decide_eq_true_eq] at this
    exact this.1
  rw [if_neg (by omega)] at hl5
  simp only [Bool.and_eq_true, decide_eq_true_eq] at hl5
  refine ⟨((preN k0).filter (fun y => decide (0 ≤ y.f0))).map leafOf, leafOf k1, ?_, ?_, hl5.2.1.2 hz0, hz0⟩
  · rw [List.filter_append, List.map_append, List.filter_cons_of_pos (by rw [hz0]; simp)]; rfl
  · intro a ha
    obtain ⟨y, hy, rfl⟩ := List.mem_map.1 ha
    obtain ⟨hy1, hy2⟩ := List.mem_filter.1 hy
    have hy2' : 0 ≤ y.f0 := by simpa using hy2
    have ho := List.all_eq_true.1 hall y hy1
    have hcy := List.all_eq_true.1 hc2.1 y hy1
    unfold okG at ho
    simp only [Bool.and_eq_true, decide_eq_true_eq] at ho
    obtain ⟨_, n0, _, ho⟩ := ho
    rw [if_pos (by omega)] at ho
    unfold leafG at ho
    simp only [Bool.and_eq_true, decide_eq_true_eq] at ho
    obtain ⟨_, _, _, n1, h5⟩ := ho
    have hf3 : y.f3 = 0 := by
      unfold cleanN at hcy
      simp only [Bool.and_eq_true, decide_eq_true_eq] at hcy
      exact hcy.1
    rw [if_neg (by omega)] at h5
    simp only [Bool.and_eq_true, decide_eq_true_eq] at h5
    exact ⟨fun q => n0 (h5.2.1.1 q), n0, n1⟩
theorem sumL_mem : ∀ (l : List S61), ∀ x ∈ l, x.f1.length ≤ sumL l := by
  intro l
  induction l with
  | nil => intro x h; cases h
  | cons y r ih =>
    intro x h
    simp only [sumL]
    rcases List.mem_cons.1 h with rfl | h
    · omega
    · have := ih x h; omega
theorem Pure.CstWithin (g : S40) (x : S26) (hg : ok40 g) (hx : ok26 x) : ∃ k, arboristlaw42_CstWithin.f k g.f0 g.f1 g.f2 g.f3 g.f4 x.f0 x.f1 x.f2 x.f3 x.f4 x.f5 x.f6 = some true := by
  refine Ends.get (g := fun k => arboristlaw42_CstWithin.f k g.f0 g.f1 g.f2 g.f3 g.f4 x.f0 x.f1 x.f2 x.f3 x.f4 x.f5 x.f6) ?_
  unfold arboristlaw42_CstWithin.f
  have jt : Ends (fun k => arboristlaw42_CstWithin.j0 k true x.f0 x.f1 x.f2 x.f3 x.f4 x.f5 x.f6) true := Ends.step (fun k => arboristlaw42_CstWithin.j0.eq_2 ..) (Ends.pos rfl knows_ends)
  obtain ⟨k0, v, hv, hp⟩ := few_ends g hg
  refine Ends.bind (Ends.of_mono (fun k => arboristref15_Few.mono _ _ _ _ _ _ k) ⟨k0, hv⟩) ?_
  cases v with
  | false => exact Ends.neg (by simp) jt
  | true =>
    have hs := hp rfl
    refine Ends.pos rfl (Ends.bind (tfew_ends x hx) ?_)
    by_cases hw : wN x ≤ 300
    case neg => rw [decide_eq_false hw]; exact Ends.neg (by simp) jt
    rw [decide_eq_true hw]
    have h3 := hs.h3
    have h4 := hs.hs
    have hm := mild_of hw
    have hps := pre_len x
    have hll := leaves_len x
    refine Ends.pos rfl (Ends.bind (gright_ends g.f0 g.f1 g.f2 g.f3 g.f4 (by cases g; exact hg) (by omega) (fun z hz => by have := sumL_mem _ z hz; omega) x hx hw) ?_)
    cases hr : rightB g.f0 g.f1 g.f2 g.f3 g.f4 x with
    | false => exact Ends.neg (by simp) jt
    | true =>
      refine Ends.pos rfl (Ends.bind0 (clean_val hm) ?_)
      cases hc : (preN x).all cleanN with
      | false => exact jt
      | true =>
        refine Ends.step (fun k => arboristlaw42_CstWithin.j0.eq_2 ..) (Ends.neg (by simp) (Ends.bind0 (leaves_val hm) ?_))
        obtain ⟨A, z, e, hA, hz⟩ := leaves_of g.f0 g.f1 g.f2 g.f3 g.f4 x hr hc
        rw [e] at hll ⊢
        exact within_l0 A z hA hz (by simp at hll; omega) (A.length + 1) 0 (by omega)
end Go.Proofs.YtphmgaijkdflnaaDoor.H
end
section
namespace Go.Proofs.YtphmgaijkdflnaaDoor.H.cstWithin
open Go.ChangeShapes Go.WideShapes Go.ChangeAt Go.RowKit Go.Proofs.YtphmgaijkdflnaaDoorW.PrintWords Go.Proofs.YtphmgaijkdflnaaDoorW.PrintLast Go.Proofs.YtphmgaijkdflnaaDoorW.PrintMore
open Go.ChangeMaps (open_string shut_string)
set_option linter.unusedVariables false
set_option linter.unusedSimpArgs false
theorem own : ownKnob Tryd.prog.godebug = none := by kernel_rfl
theorem laidOut : laidOutB Tryd.prog = true := by kernel_rfl
noncomputable def laidWorld (os : Os) : World := { World.holding Tryd.prog os ⟨#[], #[], []⟩ with heap := ((((((World.holding Tryd.prog os ⟨#[], #[], []⟩).heap).modify 3 (fun | .cells _ t frozen => .cells (([0, 1, 28, 2, 29, 14, 24, 3, 30, 22, 20, 15, 25, 17, 4, 8, 31, 27, 13, 23, 21, 19, 16, 7, 26, 12, 18, 6, 11, 5, 10, 9] : List Int).map fun z => Value.int .u8 z).toArray t frozen | o => o)).modify 4 (fun | .cells _ t frozen => .cells (([0, 1, 56, 2, 57, 49, 28, 3, 61, 58, 42, 50, 38, 29, 17, 4, 62, 47, 59, 36, 45, 43, 51, 22, 53, 39, 33, 30, 24, 18, 12, 5, 63, 55, 48, 27, 60, 41, 37, 16, 46, 35, 44, 21, 52, 32, 23, 11, 54, 26, 40, 15, 34, 20, 31, 10, 25, 14, 19, 9, 13, 8, 7, 6] : List Int).map fun z => Value.int .u8 z).toArray t frozen | o => o)).modify 2 (fun | .cells _ t frozen => .cells (([1, 10, 100, 1000, 10000, 100000, 1000000, 10000000, 100000000, 1000000000, 10000000000, 100000000000, 1000000000000, 10000000000000, 100000000000000, 1000000000000000, 10000000000000000, 100000000000000000, 1000000000000000000, 10000000000000000000] : List Int).map fun z => Value.int .u64 z).toArray t frozen | o => o)).modify 1 (fun | .cells _ t frozen => .cells (([128, 191, 160, 191, 128, 159, 144, 191, 128, 143, 0, 0, 0, 0, 0, 0, 0, 0, 0, 0, 0, 0, 0, 0, 0, 0, 0, 0, 0, 0, 0, 0] : List Int).map fun z => Value.int .u8 z).toArray t frozen | o => o)).modify 0 (fun | .cells _ t frozen => .cells (([240, 240, 240, 240, 240, 240, 240, 240, 240, 240, 240, 240, 240, 240, 240, 240, 240, 240, 240, 240, 240, 240, 240, 240, 240, 240, 240, 240, 240, 240, 240, 240, 240, 240, 240, 240, 240, 240, 240, 240, 240, 240, 240, 240, 240, 240, 240, 240, 240, 240, 240, 240, 240, 240, 240, 240, 240, 240, 240, 240, 240, 240, 240, 240, 240, 240, 240, 240, 240, 240, 240, 240, 240, 240, 240, 240, 240, 240, 240, 240, 240, 240, 240, 240, 240, 240, 240, 240, 240, 240, 240, 240, 240, 240, 240, 240, 240, 240, 240, 240, 240, 240, 240, 240, 240, 240, 240, 240, 240, 240, 240, 240, 240, 240, 240, 240, 240, 240, 240, 240, 240, 240, 240, 240, 240, 240, 240, 240, 241, 241, 241, 241, 241, 241, 241, 241, 241, 241, 241, 241, 241, 241, 241, 241, 241, 241, 241, 241, 241, 241, 241, 241, 241, 241, 241, 241, 241, 241, 241, 241, 241, 241, 241, 241, 241, 241, 241, 241, 241, 241, 241, 241, 241, 241, 241, 241, 241, 241, 241, 241, 241, 241, 241, 241, 241, 241, 241, 241, 241, 241, 241, 241, 241, 241, 2, 2, 2, 2, 2, 2, 2, 2, 2, 2, 2, 2, 2, 2, 2, 2, 2, 2, 2, 2, 2, 2, 2, 2, 2, 2, 2, 2, 2, 2, 19, 3, 3, 3, 3, 3, 3, 3, 3, 3, 3, 3, 3, 35, 3, 3, 52, 4, 4, 4, 68, 241, 241, 241, 241, 241, 241, 241, 241, 241, 241, 241] : List Int).map fun z => Value.int .u8 z).toArray t frozen | o => o) }
set_option maxRecDepth 100000 in
theorem laid_met (os : Os) (args : Array Value) : laidMet Tryd.prog Rows.cstWithinRow.laid ((laidWorld os).forCall (fun _ _ => 0) ⟨#[], args, []⟩).memory := laidMet_of_run' 8 (by kernel_rfl) (by kernel_rfl)
set_option maxRecDepth 100000 in
theorem witness_row (os : Os) {H : Type} (enc : TypeId × Value → H) :
    (OpenSpec.ofChange Rows.cstWithinSpec).preRow enc Tryd.prog Tryd.f7 Rows.cstWithinRow.domain false Rows.cstWithinRow.laid ((laidWorld os).forCall (fun _ _ => 0) ⟨#[], #[.agg #[.slice none 0 0, .slice none 0 0, .slice none 0 0, .slice none 0 0, .slice none 0 0], .agg #[.int .i64 0, .int .i64 0, .int .i64 0, .int .i64 0, .slice none 0 0, .string ⟨#[]⟩, .slice none 0 0]], []⟩).memory #[.agg #[.slice none 0 0, .slice none 0 0, .slice none 0 0, .slice none 0 0, .slice none 0 0], .agg #[.int .i64 0, .int .i64 0, .int .i64 0, .int .i64 0, .slice none 0 0, .string ⟨#[]⟩, .slice none 0 0]] := by
  have hw : (DataW.whole enc Tryd.prog ((laidWorld os).forCall (fun _ _ => 0) ⟨#[], #[.agg #[.slice none 0 0, .slice none 0 0, .slice none 0 0, .slice none 0 0, .slice none 0 0], .agg #[.int .i64 0, .int .i64 0, .int .i64 0, .int .i64 0, .slice none 0 0, .string ⟨#[]⟩, .slice none 0 0]], []⟩).memory Tryd.f7.params.toList (OpenSpec.ofChange Rows.cstWithinSpec).vars false (#[.agg #[.slice none 0 0, .slice none 0 0, .slice none 0 0, .slice none 0 0, .slice none 0 0], .agg #[.int .i64 0, .int .i64 0, .int .i64 0, .int .i64 0, .slice none 0 0, .string ⟨#[]⟩, .slice none 0 0]] : Array Value).toList 8).map (fun x => (x.1, x.2.1)) =
      some ([.agg [.nil, .nil, .nil, .nil, .nil], .agg [.lit (.int .i64 0), .lit (.int .i64 0), .lit (.int .i64 0), .lit (.int .i64 0), .nil, .lit (.string []), .nil]], []) := by kernel_rfl
  obtain ⟨⟨x1, x2, x3⟩, hx, hx1⟩ := Option.map_eq_some_iff.1 hw
  simp only [Prod.mk.injEq] at hx1
  obtain ⟨rfl, rfl⟩ := hx1
  exact OpenSpec.preRow_of_cond 8 hx (by kernel_rfl) (fun k hk => by cases hk) (by kernel_rfl) (laid_met os _)
set_option maxRecDepth 100000 in
set_option maxHeartbeats 2000000 in
theorem lifted (os : Os) (started : os.Started) (H : Type) (enc : TypeId × Value → H) (F : Stop.Interp) :
    ReturnsInHanded {} Tryd.checked os 7 .any ((OpenSpec.ofChange Rows.cstWithinSpec).preRow enc Tryd.prog Tryd.f7 Rows.cstWithinRow.domain false Rows.cstWithinRow.laid) (((OpenSpec.ofChange Rows.cstWithinSpec).at F).post enc Tryd.prog Tryd.f7 false true false false) := by
  refine returnsInHanded_of_row (C := Tryd.checked) (s := (OpenSpec.ofChange Rows.cstWithinSpec)) own started (by kernel_rfl) Tryd.func7
    (witness_row_at (enc := enc) (C := Tryd.checked) false (laidWorld os) #[.agg #[.slice none 0 0, .slice none 0 0, .slice none 0 0, .slice none 0 0, .slice none 0 0], .agg #[.int .i64 0, .int .i64 0, .int .i64 0, .int .i64 0, .slice none 0 0, .string ⟨#[]⟩, .slice none 0 0]] rfl (by kernel_rfl) (by kernel_rfl) (by kernel_rfl) (witness_row os enc)) ?_
  intro W base args ds gs before hval0 hW _ hcond0 hsz0 hL hsh _
  have hsz : (DataW.weightsEach Tryd.prog (Tryd.f7.params.toList ++ (OpenSpec.ofChange Rows.cstWithinSpec).bare.plain.varTypes Tryd.prog) (ds ++ gs)).all (· ≤ reachBytes) = true := hsz0
  have hval : ∀ (j : Nat) t v, Tryd.f7.params[j]? = some t → args[j]? = some v → Value.okWide Tryd.prog W .any base t v := hval0
  have hW' := hW
  obtain ⟨p, q, hA0, hV0, rfl, _, _⟩ := hW
  have hA : DataW.TrodAll enc Tryd.prog W 0 (fun _ => true) true Tryd.f7.params.toList args.toList ds p := hA0
  rw [Tryd.params7] at hA hval hsz
  obtain ⟨v0, vs0, d0, ds0, p0, q0, hargs, rfl, rfl, h0, r0⟩ := trodAll_cons hA
  obtain ⟨v1, vs1, d1, ds1, p1, q1, rfl, rfl, rfl, h1, r1⟩ := trodAll_cons r0
  obtain ⟨rfl, rfl, rfl⟩ := trodAll_nil r1
  obtain rfl : args = #[v0, v1] := by cases args; simp_all
  obtain ⟨rfl, rfl⟩ := trodVars_none hV0
  have hlt : ∀ x ∈ p0 ++ (p1 ++ ([])), x.block < W.heap.size := fun x hx => by simpa using hW'.lt x (by simpa using hx)
  obtain ⟨c0, rfl, hc0⟩ := okWide_struct Tryd.underlying40 (hval 0 40 v0 rfl rfl)
  obtain ⟨a0, hK0, ok0_, sz0_⟩ := Opens.of (fun b => opens_k40 b) hsz (j := 0) (t := 40) rfl rfl h0
  obtain ⟨A0_0, c0_0, A0_1, c0_1, A0_2, c0_2, A0_3, c0_3, A0_4, c0_4, e0_, l0_0, g0_0, l0_1, g0_1, l0_2, g0_2, l0_3, g0_3, l0_4, g0_4⟩ := k40_open hK0
  obtain rfl : c0 = #[.slice A0_0 a0.f0.length c0_0, .slice A0_1 a0.f1.length c0_1, .slice A0_2 a0.f2.length c0_2, .slice A0_3 a0.f3.length c0_3, .slice A0_4 a0.f4.length c0_4] := by cases c0; simp_all [Value.cells]
  obtain ⟨c1, rfl, hc1⟩ := okWide_struct Tryd.underlying26 (hval 1 26 v1 rfl rfl)
  obtain ⟨a1, hK1, ok1_, sz1_⟩ := Opens.of (fun b => opens_k26 b) hsz (j := 1) (t := 26) rfl rfl h1
  obtain ⟨A1_4, c1_4, A1_6, c1_6, e1_, l1_4, g1_4, l1_6, g1_6⟩ := k26_open hK1
  obtain rfl : c1 = #[.int .i64 a1.f0, .int .i64 a1.f1, .int .i64 a1.f2, .int .i64 a1.f3, .slice A1_4 a1.f4.length c1_4, .string a1.f5, .slice A1_6 a1.f6.length c1_6] := by cases c1; simp_all [Value.cells]
  have hgw : GW W := gw_of hsh (Go.Lib.laidMet.reads hL (List.Mem.tail _ (List.Mem.tail _ (List.Mem.head _)))) (Go.Lib.laidMet.reads hL (List.Mem.tail _ (List.Mem.tail _ (List.Mem.tail _ (List.Mem.tail _ (List.Mem.head _)))))) (Go.Lib.laidMet.reads hL (List.Mem.tail _ (List.Mem.tail _ (List.Mem.tail _ (List.Mem.head _))))) (Go.Lib.laidMet.reads hL (List.Mem.tail _ (List.Mem.head _)))
  clear hcond0 hsz0 hA0 hV0 hval0
  obtain ⟨k, hf⟩ := Pure.CstWithin a0 a1 ok0_ ok1_
  refine (arboristlaw42_CstWithin.calls k _ _ a0.f0 _ _ a0.f1 _ _ a0.f2 _ _ a0.f3 _ _ a0.f4 a1.f0 a1.f1 a1.f2 a1.f3 _ _ a1.f4 a1.f5 _ _ a1.f6 true W hgw g0_0 l0_0 g0_1 l0_1 g0_2 l0_2 g0_3 l0_3 g0_4 l0_4 g1_4 l1_4 g1_6 l1_6 hf).mono fun e W' ⟨he, bel⟩ => ?_
  subst he
  exact ⟨_, rfl, _, _, _, [], _, [], hW', trodAll_mk1 (shut_bool Tryd.underlying4 _), (trodAll_cons_mk (Below.trod laidOut (by kernel_rfl) (of_decide_eq_true (by kernel_rfl)) h0 bel (fun x hx => hlt x (by simp [hx]))) (trodAll_cons_mk (Below.trod laidOut (by kernel_rfl) (of_decide_eq_true (by kernel_rfl)) h1 bel (fun x hx => hlt x (by simp [hx]))) trodAll_mk0)), rfl, bel.frame _, fun h => by cases h⟩
set_option maxRecDepth 100000 in
theorem holds : Rows.cstWithinRow.holds Tryd.pinned (OpenSpec.ofChange Rows.cstWithinSpec) :=
  OpenClaim.holds_of_cond 7 Tryd.f7 rfl rfl rfl rfl rfl rfl rfl ⟨rfl, rfl, rfl, rfl, rfl⟩ rfl rfl rfl rfl rfl (by kernel_rfl) Tryd.func7 (by kernel_rfl)
    (of_decide_eq_true (by kernel_rfl)) (by unfold Func.isWrapper; first | (rw [if_pos (by decide +kernel)]; kernel_rfl) | (rw [if_neg (by decide +kernel)]; exact ⟨rfl, rfl⟩))
    (fun os started H enc _ F0 => by rw [OpenClaim.pre_eq_preRow]; exact lifted os started H enc F0)
set_option maxRecDepth 100000 in
theorem card : Rows.CstWithinCardSaid :=
  Claim7.holds_tied_plain_at .later [] [.data, .data, .data, .data, .pinned] true (true, "d5cdaa30bb89ef6c8005c66b0274befb33d87d1f4327f431305be44b4451cda0") false
    holds (fun _ h => by cases h) (by kernel_rfl) (fun _ h => by cases h) cstWithin_row_tie rfl ⟨rfl, rfl⟩ (by kernel_rfl) rfl
    (fun f fn hf hfn => by
      obtain rfl : f = 7 := Option.some.inj ((show Tryd.prog.funcNamed "arborist/arboristlaw42.CstWithin" = some 7 by kernel_rfl).symm.trans hf) |>.symm
      obtain rfl : fn = Tryd.f7 := (Option.some.inj (Tryd.func7.symm.trans hfn)).symm
      exact ⟨by kernel_rfl, fun j t ht => by
        rw [Tryd.params7] at ht
        rcases j with _ | j
        · obtain rfl : t = 40 := by simpa using ht.symm
          kernel_rfl
        rcases j with _ | j
        · obtain rfl : t = 26 := by simpa using ht.symm
          kernel_rfl
        · simp at ht⟩)
    (by kernel_rfl)
#print axioms card
end Go.Proofs.YtphmgaijkdflnaaDoor.H.cstWithin
namespace Go.Proofs.YtphmgaijkdflnaaDoor
theorem cstWithin_card : Rows.CstWithinCardSaid := H.cstWithin.card
#print axioms cstWithin_card
end Go.Proofs.YtphmgaijkdflnaaDoor
end
