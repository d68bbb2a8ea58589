/- For every tree that the guards let in, CstBytes returns true: the text of a tree is the concatenation of its leaves' own texts, and lengths and sizes are additive. -/
import Derived.Laws.IdiomStrings
import Derived.Laws.BitsLemmas
import Derived.Shelf.Strings.BuilderK
import Derived.Shelf.Strings.OnBuilder
import Derived.Deep.RegionHeld3
import Derived.Test.YtphmgaijkdflnaaDoorRows
import Derived.Test.YtphmgaijkdflnaaDoorTie
import Derived.Test.YtphmgaijkdflnaaDoorCards
import Derived.Deep.DeepHandedRow
import Derived.ProofKit
import Derived.SizedLaws
import Derived.OpenShut
import Derived.ShutString
import Derived.ChangeOld
import Derived.Below
import Derived.SevenTiedAt
import Derived.WalkKit
import Derived.Stop.LaidErr
import Derived.Test.YtphmgaijkdflnaaDoorZb4
section
namespace Go.Proofs.YtphmgaijkdflnaaDoor.H
open Go.RowKit Go.Proofs.YtphmgaijkdflnaaDoorW.PrintWords Go.Proofs.YtphmgaijkdflnaaDoorW.PrintLast Go.Proofs.YtphmgaijkdflnaaDoorW.PrintMore
open Go.Maps
set_option linter.unusedVariables false
set_option linter.unusedSimpArgs false
def hexD (d : Nat) : UInt8 := UInt8.ofNat (if d < 10 then 48 + d else 87 + d)
def hexL : Nat → Nat → List UInt8 → List UInt8
  | 0, u, acc => hexD (u % 16) :: acc
  | f + 1, u, acc => if 16 ≤ u then hexL f (u / 16) (hexD (u % 16) :: acc) else hexD u :: acc
set_option maxRecDepth 100000 in
set_option maxHeartbeats 1000000 in
theorem pow2_calls (w : World) : Calls Tryd.prog 95 #[.int .i64 16] w fun e w' => e = .returned (.bool true) ∧ w' = w := by
  go_enter Tryd.func95, Tryd.ntmps95
  go_wp2
  go_ret
  exact ⟨rfl, rfl⟩
set_option maxRecDepth 100000 in
set_option maxHeartbeats 1000000 in
theorem tz64_calls (w : World) (hdb : w.cell? ⟨4, 15, none⟩ = some (.int .u8 4)) : Calls Tryd.prog 98 #[.int .u64 16] w fun e w' => e = .returned (.int .i64 4) ∧ w' = w := by
  go_enter Tryd.func98, Tryd.ntmps98
  have e1 : bits BinOp.and IntKind.u64 16 (IntKind.u64.wrap (-16)) = 16 := by kernel_rfl
  have e2 : IntKind.u64.wrap (16 * 285870213051353865) = 4573923408821661840 := by kernel_rfl
  go_wp2
  go_ret
  exact ⟨rfl, rfl⟩
set_option maxRecDepth 100000 in
theorem tz_calls (w : World) (hdb : w.cell? ⟨4, 15, none⟩ = some (.int .u8 4)) : Calls Tryd.prog 96 #[.int .u64 16] w fun e w' => e = .returned (.int .i64 4) ∧ w' = w := by
  go_enter Tryd.func96, Tryd.ntmps96
  go_wp2_with (go_at_call 98; refine (tz64_calls _ hdb).mono ?_; rintro e w' ⟨rfl, rfl⟩)
  go_ret
  exact ⟨rfl, rfl⟩
def Row65 (g i : Nat) (acc : List UInt8) (w : World) : Prop :=
  ∃ cs : Array Value, w.heap[g]? = some (.cells cs 124 (0, 0)) ∧ cs.size = 65 ∧ i + acc.length = 65 ∧ (∀ j, j < 65 → ∃ c : Int, cs[j]? = some (.int .u8 c)) ∧ ∀ j (hj : j < acc.length), cs[i + j]? = some (.int .u8 (acc[j].toNat : Int))
theorem Row65.new (w : World) : Row65 w.heap.size 65 [] (w.alloc (.cells (Array.replicate 65 (.int .u8 0)) 124)) :=
  ⟨_, blk_new w _, by simp, rfl, fun j hj => ⟨0, by simp [hj]⟩, fun j hj => by simp at hj⟩
theorem Row65.cell {g i : Nat} {acc : List UInt8} {w : World} (h : Row65 g i acc w) (j : Nat) (hj : j < 65) : ∃ c : Int, w.cell? ⟨g, j, none⟩ = some (.int .u8 c) ∧ w.frozen? ⟨g, j, none⟩ = false := by
  obtain ⟨cs, hb, hs, hl, hall, hacc⟩ := h
  obtain ⟨c, hc⟩ := hall j hj
  exact ⟨c, (blk_cell hb j).trans hc, blk_frozen hb j⟩
theorem Row65.put {g i : Nat} {acc : List UInt8} {w : World} (h : Row65 g (i + 1) acc w) (c : UInt8) : Row65 g i (c :: acc) (w.setCell ⟨g, i, none⟩ (.int .u8 (c.toNat : Int))) := by
  obtain ⟨cs, hb, hs, hl, hall, hacc⟩ := h
  refine ⟨_, blk_put hb i _ rfl, by simp [hs], by simp; omega, fun j hj => ?_, fun j hj => ?_⟩
  · by_cases e : i = j
    · subst e; exact ⟨_, by rw [Array.getElem?_setIfInBounds_self_of_lt (by omega)]⟩
    · rw [Array.getElem?_setIfInBounds_ne e]; exact hall j hj
  · cases j with
    | zero => rw [Nat.add_zero, Array.getElem?_setIfInBounds_self_of_lt (by omega)]; rfl
    | succ j =>
      rw [Array.getElem?_setIfInBounds_ne (by omega)]
      have := hacc j (by simpa using hj)
      rw [show i + (j + 1) = i + 1 + j by omega]
      simpa using this
theorem Row65.read {g i : Nat} {acc : List UInt8} {w : World} (h : Row65 g i acc w) (cap : Nat) : (convert 50 9 (.slice (some ⟨g, i, none⟩) (65 - i) cap)).run Tryd.prog w = .ok (.string ⟨acc.toArray⟩) w := by
  obtain ⟨cs, hb, hs, hl, hall, hacc⟩ := h
  rw [show 65 - i = acc.length by omega]
  refine run_convert_bytes_back w 50 9 5 ⟨g, i, none⟩ cap acc Tryd.underlying50 Tryd.underlying5 Tryd.underlying9 (fun j hj => ?_)
  have : (⟨g, i, none⟩ : Addr).add j = ⟨g, i + j, none⟩ := by cases j <;> simp [Addr.add]
  rw [this, blk_cell hb]
  exact hacc j hj
theorem dig36 (d : Nat) (hd : d < 16) : ∀ h, (⟨#[48, 49, 50, 51, 52, 53, 54, 55, 56, 57, 97, 98, 99, 100, 101, 102, 103, 104, 105, 106, 107, 108, 109, 110, 111, 112, 113, 114, 115, 116, 117, 118, 119, 120, 121, 122]⟩ : ByteArray)[d]'h = hexD d := by
  have H : ∀ d, d < 16 → ∀ h, (⟨#[48, 49, 50, 51, 52, 53, 54, 55, 56, 57, 97, 98, 99, 100, 101, 102, 103, 104, 105, 106, 107, 108, 109, 110, 111, 112, 113, 114, 115, 116, 117, 118, 119, 120, 121, 122]⟩ : ByteArray)[d]'h = hexD d := by decide
  exact H d hd
theorem sl65 (g j : Nat) (hj : j < 65) (W : World) : (Instr.sliceAt 124 (.pointer (some ⟨g, 0, none⟩)) (some (.int .i64 (j : Int))) none none).run Tryd.prog W = .ok (.slice (some ⟨g, j, none⟩) (65 - j) (65 - j)) W := by
  have hal : Tryd.prog.arrayLen 124 = 65 := by simp [Program.arrayLen, Tryd.underlying124]
  rw [run_sliceAt_array_l W 124 ⟨g, 0, none⟩ (by simp [Program.arrayLen, Program.elem, Tryd.underlying124]) .i64 (j : Int) (by omega) (by rw [hal]; omega)]
  rw [hal]
  go_simp
  omega
def FbRel (g u : Nat) (vu vi : Value) (w wr : World) : Prop :=
  ∃ (f v i : Nat) (acc : List UInt8), vu = .int .u64 (v : Int) ∧ vi = .int .i64 (i : Int) ∧ v < 16 ^ (f + 1) ∧ f + 50 ≤ i ∧ i ≤ 65 ∧ f ≤ 14 ∧ hexL f v acc = hexL 14 u [] ∧ Row65 g i acc wr ∧ Below g w wr
theorem fb_and (v : Nat) (h : v < 18446744073709551616) : bits BinOp.and IntKind.u64 (v : Int) 15 = ((v % 16 : Nat) : Int) := by
  have := bits_mask .u64 64 (by decide) (fun n h0 h1 => by simp [IntKind.wrap, IntKind.bits, IntKind.signed]; omega) 4 (by decide) (v : Int) (by omega) (by omega)
  simpa using this
set_option maxRecDepth 100000 in
set_option maxHeartbeats 4000000 in
theorem formatBits_calls (u : Nat) (hu : u < 2147483648) (w : World) (hdb : w.cell? ⟨4, 15, none⟩ = some (.int .u8 4)) :
    Calls Tryd.prog 91 #[.slice none 0 0, .int .u64 (u : Int), .int .i64 16, .bool false, .bool false] w fun e w' => e = .returned (.tuple #[.slice none 0 0, .string ⟨(hexL 14 u []).toArray⟩]) ∧ Below w.heap.size w w' := by
  have HDB := Aside0.mk (cell_below hdb (below_alloc (Below.refl _ w) (.cells (Array.replicate 65 (.int .u8 0)) 124)))
  clear hdb
  go_enter Tryd.func91, Tryd.ntmps91
  go_wp2_with (first
    | (go_at_call 95; refine (pow2_calls _).mono ?_; rintro e w' ⟨rfl, rfl⟩)
    | (go_at_call 96; refine (tz_calls _ ?_).mono ?_; (case _ => exact HDB.out); rintro e w' ⟨rfl, rfl⟩))
  go_loopw [1, 13] (fun vu vi wr => FbRel w.heap.size u vu vi w wr) (fun vu _ _ => (intOf vu).toNat)
  case atStart => exact ⟨14, u, 65, [], rfl, rfl, by omega, by omega, by omega, by omega, rfl, Row65.new w, below_alloc (Below.refl _ _) _⟩
  case round =>
    obtain ⟨f, v, i, acc, rfl, rfl, hv, hi, hi2, hf, hL, hR, hB⟩ := hrel
    have hv64 : v < 18446744073709551616 := by
      have : (16 : Nat) ^ (f + 1) ≤ 16 ^ 15 := Nat.pow_le_pow_right (by omega) (by omega)
      omega
    obtain ⟨c, hc, hfz⟩ := hR.cell (i - 1) (by omega)
    obtain ⟨j, rfl⟩ : ∃ j, i = j + 1 := ⟨i - 1, by omega⟩
    rw [Nat.add_sub_cancel] at hc hfz
    have hd16 : v % 16 < 16 := Nat.mod_lt _ (by omega)
    have hij : ((j + 1 : Nat) : Int) - 1 = (j : Int) := by omega
    have hjn : ((j : Int)).toNat = j := rfl
    have HV := Aside0.mk hv
    have HL := Aside0.mk hL
    have HR := Aside0.mk hR
    have HB := Aside0.mk hB
    clear hv hL hR hB
    by_cases h16 : 16 ≤ v
    · have h16b : decide ((v : Int) ≥ 16) = true := by simp; omega
      have hdg := dig36 (v % 16) (by omega)
      have hand := fb_and v hv64
      go_wp2
      go_roundw
      case rel =>
        have hf1 : 1 ≤ f := by
          have := HV.out
          cases f with
          | zero => omega
          | succ f => omega
        refine ⟨f - 1, v / 16, j, hexD (v % 16) :: acc, by push_cast; rfl, rfl, ?_, by omega, by omega, by omega, ?_, HR.out.put _, HB.out.setCell (p := ⟨w.heap.size, j, none⟩) (Nat.le_refl _) _⟩
        · have := HV.out
          cases f with
          | zero => omega
          | succ f => rw [Nat.pow_succ] at this; simp only [Nat.add_sub_cancel]; omega
        · rw [← HL.out]
          cases f with
          | zero => have := HV.out; omega
          | succ f => simp only [Nat.add_sub_cancel, hexL]; rw [if_pos h16]
      case measure => simp [intOf]; omega
    · have h16b : decide ((v : Int) ≥ 16) = false := by simp; omega
      have hdg := dig36 v (by omega)
      have hsl := sl65 w.heap.size j (by omega)
      have hcv := (HR.out.put (hexD v)).read (65 - j)
      go_wp2
      go_ret2
      have e : hexD v :: acc = hexL 14 u [] := by
        rw [← HL.out]
        cases f with
        | zero => simp only [hexL]; rw [Nat.mod_eq_of_lt (by omega)]
        | succ f => simp only [hexL]; rw [if_neg h16]
      exact ⟨by rw [e]; rfl, HB.out.setCell (p := ⟨w.heap.size, j, none⟩) (Nat.le_refl _) _⟩
set_option maxRecDepth 100000 in
set_option maxHeartbeats 1000000 in
theorem formatInt16_calls (u : Nat) (hu : u < 2147483648) (w : World) (hdb : w.cell? ⟨4, 15, none⟩ = some (.int .u8 4)) :
    Calls Tryd.prog 87 #[.int .i64 (u : Int), .int .i64 16] w fun e w' => e = .returned (.string ⟨(hexL 14 u []).toArray⟩) ∧ Below w.heap.size w w' := by
  have HDB := Aside0.mk hdb
  clear hdb
  go_enter Tryd.func87, Tryd.ntmps87
  go_wp2_with (go_at_call 91; refine (formatBits_calls _ hu _ HDB.out).mono ?_; rintro e w' ⟨rfl, hb⟩)
  go_ret
  exact ⟨rfl, hb⟩
set_option maxRecDepth 100000 in
set_option maxHeartbeats 1000000 in
theorem formatInt16p_calls (u : Nat) (hu : u < 2147483648) (w : World) (hdb : w.cell? ⟨4, 15, none⟩ = some (.int .u8 4)) :
    Calls Tryd.prog 80 #[.int .i64 (u : Int), .int .i64 16] w fun e w' => e = .returned (.string ⟨(hexL 14 u []).toArray⟩) ∧ Below w.heap.size w w' := by
  have HDB := Aside0.mk hdb
  clear hdb
  go_enter Tryd.func80, Tryd.ntmps80
  go_wp2_with (go_at_call 87; refine (formatInt16_calls _ hu _ HDB.out).mono ?_; rintro e w' ⟨rfl, hb⟩)
  go_ret
  exact ⟨rfl, hb⟩
def text_hex.f (n : Int) : Option ByteArray := if 0 ≤ n ∧ n < 2147483648 then some ⟨(hexL 14 n.toNat []).toArray⟩ else none
set_option maxRecDepth 100000 in
theorem text_hex.calls (a0 : Int) (r : ByteArray) (w : World) (hgw : GW w) (h : text_hex.f a0 = some r) :
    Calls Tryd.prog 68 #[.int .i32 a0] w fun e w' => e = .returned (.string r) ∧ Below w.heap.size w w' := by
  unfold text_hex.f at h
  split at h
  case isFalse => cases h
  rename_i hs
  have HP := Aside0.mk (Option.some.inj h)
  obtain ⟨u, rfl⟩ := Int.eq_ofNat_of_zero_le hs.1
  have hu : u < 2147483648 := by omega
  have HDB := Aside0.mk (hgw.db 15 (by decide))
  clear h hs hgw
  go_enter Tryd.func68, Tryd.ntmps68
  go_wp2_with (go_at_call 80; refine (formatInt16p_calls u hu _ HDB.out).mono ?_; rintro e w' ⟨rfl, hb⟩)
  go_ret
  exact ⟨by rw [← HP.out]; rfl, hb⟩
end Go.Proofs.YtphmgaijkdflnaaDoor.H
end
section
namespace Go.Proofs.YtphmgaijkdflnaaDoor.H
open Go.RowKit Go.Proofs.YtphmgaijkdflnaaDoorW.PrintWords Go.Proofs.YtphmgaijkdflnaaDoorW.PrintLast Go.Proofs.YtphmgaijkdflnaaDoorW.PrintMore
open Go.Maps
set_option linter.unusedVariables false
set_option linter.unusedSimpArgs false
def Bd (g : Nat) (acc : List UInt8) (w : World) : Prop := Lib.IsBuilderF 69 5 g g (Lib.byteCells acc) w
theorem Bd.new (w : World) : Bd w.heap.size [] (w.alloc (.cells #[.pointer none, .slice none 0 0] 69)) := .of (Lib.fresh_isBuilder _ _ w)
theorem Bd.lt {g : Nat} {acc : List UInt8} {w : World} (h : Bd g acc w) : g < w.heap.size := by
  rcases h with h | h
  · exact h.lt
  · exact h.lt
theorem bat_below {T e : TypeId} {B b : Nat} {p : Value} {bs : List Value} {w W : World} (h : Lib.BuilderAtF T e B b p bs w) (hb : Below w.heap.size w W) : Lib.BuilderAtF T e B b p bs W := by
  obtain ⟨hB, v, hbk, hown, hne⟩ := h
  exact ⟨hB, v, blk_below hbk hb, hown.kept (grown_of_below hb none) (by cases v.ownBlock <;> simp), hne⟩
theorem Bd.below {g : Nat} {acc : List UInt8} {w W : World} (h : Bd g acc w) (hb : Below w.heap.size w W) : Bd g acc W := by
  rcases h with h | h
  · exact .inl (bat_below h hb)
  · exact .inr (bat_below h hb)
theorem Bd.alloc {g : Nat} {acc : List UInt8} {w : World} (h : Bd g acc w) (o : Obj) : Bd g acc (w.alloc o) := h.below (below_alloc (Below.refl _ _) o)
theorem Bd.drewN {g : Nat} {acc : List UInt8} {w : World} (h : Bd g acc w) (n : Nat) : Bd g acc (w.drewN n) := h.below (pw_below_drewN (Below.refl _ _) n)
theorem Bd.write {g : Nat} {acc : List UInt8} {w : World} (h : Bd g acc w) (s : ByteArray) (hlen : acc.length + s.size ≤ 140737488355328) :
    Calls Tryd.prog 45 #[.pointer (some ⟨g, 0, none⟩), .string s] w fun e w' => e = .returned (.tuple #[.int .i64 s.size, .nilIface]) ∧ Bd g (acc ++ s.data.toList) w' ∧ Below g w w' ∧ Lib.OthersKept 5 (some g) w w' := by
  refine (Any.Builder_WriteString_k Tryd.ly166 Tryd.bx g g _ s w h (by rw [Lib.byteCells_length]; exact hlen) (Nat.le_of_lt h.lt)).mono ?_
  rintro e w' ⟨rfl, h1, h2, h3⟩
  refine ⟨rfl, ?_, h2, h3⟩
  unfold Bd
  rw [Lib.byteCells_append]
  exact Or.inr h1
theorem Bd.string {g : Nat} {acc : List UInt8} {w : World} (h : Bd g acc w) :
    Calls Tryd.prog 46 #[.pointer (some ⟨g, 0, none⟩)] w fun e w' => e = .returned (.string ⟨acc.toArray⟩) ∧ Below g w w' := by
  refine (Any.Builder_String_any_k Tryd.ly169 Tryd.bx g g acc w h (Nat.le_of_lt h.lt)).mono ?_
  rintro e w' ⟨rfl, _, h2, _⟩
  exact ⟨rfl, h2⟩
theorem keep_blk {g k : Nat} {w W : World} {c : Array Value} {T : TypeId} {fz : Nat × Nat} (h : Lib.OthersKept 5 (some g) w W) (hk : w.heap[k]? = some (.cells c T fz)) (hne : k ≠ g) (hT : T ≠ 5) : W.heap[k]? = some (.cells c T fz) :=
  h k _ hk (by simpa using hne) (fun c' fz' e => hT (by injection e))
theorem Bd.byte {g : Nat} {acc : List UInt8} {w : World} (h : Bd g acc w) (c : UInt8) (hlen : acc.length + 1 ≤ 140737488355328) :
    Calls Tryd.prog 66 #[.pointer (some ⟨g, 0, none⟩), .int .u8 c.toNat] w fun e w' => e = .returned .nilIface ∧ Bd g (acc ++ [c]) w' ∧ Below g w w' ∧ Lib.OthersKept 5 (some g) w w' := by
  refine (Any.Builder_WriteByte_k Tryd.ly167 Tryd.bx g g _ c.toNat w h (by rw [Lib.byteCells_length]; exact hlen) (Nat.le_of_lt h.lt)).mono ?_
  rintro e w' ⟨rfl, h1, h2, h3⟩
  refine ⟨rfl, ?_, h2, h3⟩
  unfold Bd
  rw [Lib.byteCells_append]
  exact Or.inr h1
end Go.Proofs.YtphmgaijkdflnaaDoor.H
end
section
namespace Go.Proofs.YtphmgaijkdflnaaDoor.H
open Go.RowKit Go.Proofs.YtphmgaijkdflnaaDoorW.PrintWords Go.Proofs.YtphmgaijkdflnaaDoorW.PrintLast Go.Proofs.YtphmgaijkdflnaaDoorW.PrintMore
open Go.Maps
set_option linter.unusedVariables false
set_option linter.unusedSimpArgs false
def escOf (s : ByteArray) (x : S87) : List UInt8 :=
  if x.f0 = 65533 ∧ x.f2 = 1 then [92, 120, 123] ++ hexL 14 (s.get! x.f1.toNat).toNat [] ++ [125]
  else if x.f0 = 10 then [92, 110] else if x.f0 = 13 then [92, 114] else if x.f0 = 9 then [92, 116]
  else if x.f0 = 34 ∨ x.f0 = 92 then [92, x.f0.toNat.toUInt8]
  else if x.f0 < 32 ∨ x.f0 > 126 then [92, 117, 123] ++ hexL 14 x.f0.toNat [] ++ [125]
  else [x.f0.toNat.toUInt8]
def quoteB (s : ByteArray) (rs : List S87) : List UInt8 := 34 :: rs.flatMap (escOf s)
def text_Quote.f (a0 : ByteArray) : Option ByteArray := if a0.size ≤ 4398046511104 then some (⟨(quoteB a0 (runesL a0)).toArray⟩ ++ ⟨#[34]⟩) else none
theorem hexL_len (f : Nat) : ∀ u acc, (hexL f u acc).length ≤ f + 1 + acc.length := by
  induction f with
  | zero => intro u acc; simp [hexL]; omega
  | succ f ih =>
    intro u acc
    simp only [hexL]
    split
    · have := ih (u / 16) (hexD (u % 16) :: acc); simp at this; omega
    · simp; omega
theorem escOf_len (s : ByteArray) (x : S87) : (escOf s x).length ≤ 20 := by
  have h1 := hexL_len 14 (s.get! x.f1.toNat).toNat []
  have h2 := hexL_len 14 x.f0.toNat []
  simp only [List.length_nil] at h1 h2
  unfold escOf
  repeat' split
  all_goals simp
  all_goals omega
theorem flatMap_esc_len (s : ByteArray) (rs : List S87) : (rs.flatMap (escOf s)).length ≤ 20 * rs.length := by
  induction rs with
  | nil => simp
  | cons x r ih => have := escOf_len s x; simp only [List.flatMap_cons, List.length_append, List.length_cons]; omega
theorem runesFrom_mem (s : ByteArray) (f : Nat) : ∀ pos, ∀ x ∈ runesFrom s f pos, (0 ≤ x.f0 ∧ x.f0 ≤ 1114111) ∧ 0 ≤ x.f1 ∧ x.f1 < s.size := by
  induction f with
  | zero => intro pos x hx; simp [runesFrom] at hx
  | succ f ih =>
    intro pos x hx
    simp only [runesFrom] at hx
    split at hx
    · rename_i hp
      rcases List.mem_cons.1 hx with rfl | hx
      · have := Lib.rune_le s pos
        exact ⟨⟨by simp, by simp; omega⟩, by simp, by simp; omega⟩
      · exact ih _ x hx
    · simp at hx
theorem runesFrom_len (s : ByteArray) (f : Nat) : ∀ pos, (runesFrom s f pos).length ≤ s.size - pos := by
  induction f with
  | zero => intro pos; simp [runesFrom]
  | succ f ih =>
    intro pos
    simp only [runesFrom]
    split
    · have := ih (pos + (Utf8.decode s pos).2); have := rune_w_pos s pos; simp only [List.length_cons]; omega
    · simp
theorem R_others {α : Type} {d : Kd α} {e base g : Nat} {ok : Nat → Prop} {w W : World} {v : Value} {xs : List α} (h : d.R e w base ok v xs) (hE : d.E = []) (hk : Lib.OthersKept 5 (some g) w W) (hne : e ≠ 5) (hg : g < base) : d.R e W base ok v xs :=
  Kd.R_mono (Kd.R_step (Kd.R_bound h) (fun k hk1 _ => by
    obtain ⟨_, h2, _, q, hq, cs, hc⟩ := hk1
    rw [hE] at hq
    simp only [List.mem_singleton] at hq
    subst hq
    exact (hk k _ hc (fun e_ => by injection e_ with e_; omega) (fun c' fz' e_ => hne (by injection e_))).trans hc.symm)) (fun _ hk1 => hk1.1)
theorem hex_any (n : Int) (h0 : 0 ≤ n) (h1 : n < 2147483648) (w : World) (hgw : GW w) : Calls Tryd.prog 68 #[.int .i32 n] w fun e w' => ∃ hx : ByteArray, e = .returned (.string hx) ∧ Aside0 (hx.data.toList = hexL 14 n.toNat []) ∧ hx.size ≤ 15 ∧ Below w.heap.size w w' := by
  have h := hexL_len 14 n.toNat []
  simp only [List.length_nil] at h
  refine (text_hex.calls n ⟨(hexL 14 n.toNat []).toArray⟩ w hgw (by unfold text_hex.f; rw [if_pos ⟨h0, h1⟩])).mono ?_
  rintro e w' ⟨rfl, hb⟩
  exact ⟨_, rfl, ⟨by simp⟩, by simp [ByteArray.size]; omega, hb⟩
theorem write_len {acc : List UInt8} {s : ByteArray} (h : acc.length ≤ 140737488355000) (hs : s.size ≤ 100) : acc.length + s.size ≤ 140737488355328 := by omega
def QRel (s : ByteArray) (rs : List S87) (w : World) (v vi : Value) (wr : World) : Prop :=
  ∃ k : Nat, k ≤ rs.length ∧ vi = .int .i64 (k : Int) ∧ Bd w.heap.size (quoteB s (rs.take k)) wr ∧ Below w.heap.size w wr ∧ Kd.R k87 87 wr (w.heap.size + 1) (fun _ => True) v rs
theorem QRel.next {s : ByteArray} {rs : List S87} {w W : World} {v : Value} {k : Nat} (hk : k < rs.length) {acc : List UInt8} (hb : Bd w.heap.size acc W) (he : acc = quoteB s (rs.take k) ++ escOf s (rs[k])) (hB : Below w.heap.size w W)
    (hR : Kd.R k87 87 W (w.heap.size + 1) (fun _ => True) v rs) : QRel s rs w v (.int .i64 ((k : Int) + 1)) W := by
  refine ⟨k + 1, hk, by push_cast; rfl, ?_, hB, hR⟩
  rw [he] at hb
  rw [List.take_succ_eq_append_getElem hk]
  have e : quoteB s (rs.take k ++ [rs[k]]) = quoteB s (rs.take k) ++ escOf s rs[k] := by
    unfold quoteB
    rw [List.flatMap_append]
    simp only [List.flatMap_cons, List.flatMap_nil, List.append_nil, List.cons_append]
  rw [e]
  exact hb
set_option maxRecDepth 100000 in
set_option maxHeartbeats 8000000 in
theorem text_Quote.calls (a0 : ByteArray) (r : ByteArray) (w : World) (hgw : GW w) (h : text_Quote.f a0 = some r) :
    Calls Tryd.prog 44 #[.string a0] w fun e w' => e = .returned (.string r) ∧ Below w.heap.size w w' := by
  unfold text_Quote.f at h
  split at h
  case isFalse => cases h
  rename_i hs
  have HP := Aside0.mk (Option.some.inj h)
  have HS := Aside0.mk hs
  have HGW := Aside0.mk hgw
  have HRF := Aside0.mk (show text_Runes.f a0 = some (runesL a0) by unfold text_Runes.f; rw [if_pos hs])
  have HRL := Aside0.mk (show (runesL a0).length ≤ 4398046511104 from Nat.le_trans (runesFrom_len a0 a0.size 0) (by omega))
  have HRM := Aside0.mk (fun x hx => runesFrom_mem a0 a0.size 0 x hx : ∀ x ∈ runesL a0, (0 ≤ x.f0 ∧ x.f0 ≤ 1114111) ∧ 0 ≤ x.f1 ∧ x.f1 < a0.size)
  have HB0 := Aside0.mk (Bd.new w)
  clear h hs hgw
  obtain ⟨rs, hrs⟩ : ∃ rs, runesL a0 = rs := ⟨_, rfl⟩
  rw [hrs] at HP HRF HRL HRM
  clear hrs
  go_enter Tryd.func44, Tryd.ntmps44
  go_wp2_with (first
    | (go_at_call 66; refine (HB0.out.byte 34 (by simp)).mono ?_; rintro e w1 ⟨rfl, hb1, hB1, hO1⟩; have HB1 := Aside0.mk hb1; have HL1 := Aside0.mk ((below_alloc (Below.refl w.heap.size w) _).trans hB1); clear hb1 hB1 hO1)
    | (go_at_call 67; refine (text_Runes.calls a0 rs _ (HGW.out.below HL1.out) HRF.out).mono ?_; rintro e w2 ⟨v, rfl, hR, hb⟩; obtain ⟨A, c, rfl⟩ := Kd.R_slice hR; have HB2 := Aside0.mk (HB1.out.below hb); have HR2 := Aside0.mk (Kd.R_lower hR (show w.heap.size + 1 ≤ w1.heap.size from HB1.out.lt)); have HL2 := Aside0.mk (below_step HL1.out hb); clear hR hb))
  go_loopw [10] (fun v10 wr => QRel a0 rs w (.slice A rs.length c) v10 wr) (fun v10 _ => rs.length - (intOf v10).toNat)
  case atStart => exact ⟨0, Nat.zero_le _, rfl, HB2.out, HL2.out, HR2.out⟩
  case round =>
    obtain ⟨k, hk, rfl, hb, hB, hR⟩ := hrel
    have hn := HRL.out
    by_cases hlt : k < rs.length
    · have hm := HRM.out _ (List.getElem_mem hlt)
      obtain ⟨ad, hA, hx0, hx1, hx2⟩ := at_T87 (Kd.R_reads' hR).2.2 (k : Int) (by omega) (by omega)
      have hrd : rd_T87 rs (k : Int) = rs[k] := by simp [rd_T87, List.getD_eq_getElem?_getD, List.getElem?_eq_getElem hlt]
      rw [hrd] at hx0 hx1 hx2
      simp only [Int.toNat_natCast] at hx0 hx1 hx2
      cases hA
      obtain ⟨⟨f0, f1, f2⟩, hx⟩ : ∃ x, rs[k] = x := ⟨_, rfl⟩
      rw [hx] at hx0 hx1 hx2 hm
      dsimp only at hx0 hx1 hx2 hm
      obtain ⟨⟨m0, m1⟩, m2, m3⟩ := hm
      have HX := Aside0.mk hx
      have HB := Aside0.mk hb
      have HL := Aside0.mk hB
      have HR := Aside0.mk hR
      have hq : (quoteB a0 (rs.take k)).length ≤ 140737488355000 := by
        have h1 := flatMap_esc_len a0 (rs.take k)
        have h2 : (rs.take k).length ≤ k := List.length_take_le _ _
        simp only [quoteB, List.length_cons]; omega
      have HQ := Aside0.mk hq
      clear hx hb hB hR hrd hq
      by_cases t1 : f0 = 65533
      · subst t1
        by_cases t2 : f2 = 1
        · subst t2
          have hby : (a0.get! f1.toNat) = a0[f1.toNat]'(by omega) := get_at a0 f1.toNat (by omega)
          have HBY := Aside0.mk hby
          obtain ⟨c8, hc8⟩ : ∃ c8 : UInt8, (a0[f1.toNat]'(by omega)) = c8 := ⟨_, rfl⟩
          rw [hc8] at HBY
          have hc8' : ∀ h, a0[f1.toNat]'h = c8 := fun _ => hc8
          clear hc8 hby
          have h8 := c8.toNat_lt
          have hwb : wrap32 (c8.toNat : Int) = (c8.toNat : Int) := by unfold wrap32; omega
          go_wp2_with (first
            | (go_at_call 68; refine (hex_any _ ?h1 ?h2 _ ?h3).mono ?_; (case h1 => omega); (case h2 => omega); (case h3 => exact HGW.out.below (below_alloc HL.out _)); rintro e w1 ⟨hx, rfl, HX1, hx2, hb1⟩; have HB1 := Aside0.mk ((HB.out.alloc _).below hb1); have HL1 := Aside0.mk (below_step (below_alloc HL.out _) hb1); have HR1 := Aside0.mk (Kd.R_below (Kd.R_alloc HR.out _) hb1); clear hb1; have hz1 : (9223372036854775807 < 3 + hx.size) = False := eq_false (by omega); have hz2 : (9223372036854775807 < 3 + hx.size + 1) = False := eq_false (by omega))
            | (go_at_call 45; refine (Bd.write HB1.out _ ?h4).mono ?_; (case h4 => exact write_len HQ.out (by first | decide | (simp only [ByteArray.size_append]; show 3 + hx.size + 1 ≤ 100; omega))); rintro e w2 ⟨rfl, hb2, hB2, hO2⟩; have HB2 := Aside0.mk hb2; have HL2 := Aside0.mk (HL1.out.trans hB2); have HR2 := Aside0.mk (R_others HR1.out rfl hO2 (by decide) (Nat.lt_succ_self _)); clear hb2 hB2 hO2))
          go_roundw
          case rel => exact QRel.next hlt HB2.out (by rw [HX.out]; simp [escOf, HX1.out, HBY.out]) HL2.out HR2.out
          case measure => simp [intOf]; omega
        · have t2b : (f2 == 1) = false := by simpa using t2
          go_wp2_with (first
            | (go_at_call 68; refine (hex_any _ ?h1 ?h2 _ ?h3).mono ?_; (case h1 => omega); (case h2 => omega); (case h3 => exact HGW.out.below (below_alloc HL.out _)); rintro e w1 ⟨hx, rfl, HX1, hx2, hb1⟩; have HB1 := Aside0.mk ((HB.out.alloc _).below hb1); have HL1 := Aside0.mk (below_step (below_alloc HL.out _) hb1); have HR1 := Aside0.mk (Kd.R_below (Kd.R_alloc HR.out _) hb1); clear hb1; have hz1 : (9223372036854775807 < 3 + hx.size) = False := eq_false (by omega); have hz2 : (9223372036854775807 < 3 + hx.size + 1) = False := eq_false (by omega))
            | (go_at_call 45; refine (Bd.write HB1.out _ ?h4).mono ?_; (case h4 => exact write_len HQ.out (by first | decide | (simp only [ByteArray.size_append]; show 3 + hx.size + 1 ≤ 100; omega))); rintro e w2 ⟨rfl, hb2, hB2, hO2⟩; have HB2 := Aside0.mk hb2; have HL2 := Aside0.mk (HL1.out.trans hB2); have HR2 := Aside0.mk (R_others HR1.out rfl hO2 (by decide) (Nat.lt_succ_self _)); clear hb2 hB2 hO2))
          go_roundw
          case rel => exact QRel.next hlt HB2.out (by rw [HX.out]; simp [escOf, HX1.out, t2]) HL2.out HR2.out
          case measure => simp [intOf]; omega
      have t1b : (f0 == 65533) = false := by simpa using t1
      by_cases t10 : f0 = 10
      · subst t10
        go_wp2_with (first
          | (go_at_call 45; refine (Bd.write (HB.out.alloc _) _ ?h4).mono ?_; (case h4 => exact write_len HQ.out (by first | decide | (simp only [ByteArray.size_append]; show 3 + hx.size + 1 ≤ 100; omega))); rintro e w1 ⟨rfl, hb1, hB1, hO1⟩; have HB1 := Aside0.mk hb1; have HL1 := Aside0.mk ((below_alloc HL.out _).trans hB1); have HR1 := Aside0.mk (R_others (Kd.R_alloc HR.out _) rfl hO1 (by decide) (Nat.lt_succ_self _)); clear hb1 hB1 hO1))
        go_roundw
        case rel => exact QRel.next hlt HB1.out (by rw [HX.out]; simp [escOf]) HL1.out HR1.out
        case measure => simp [intOf]; omega
      have t10b : (f0 == 10) = false := by simpa using t10
      by_cases t13 : f0 = 13
      · subst t13
        go_wp2_with (first
          | (go_at_call 45; refine (Bd.write (HB.out.alloc _) _ ?h4).mono ?_; (case h4 => exact write_len HQ.out (by first | decide | (simp only [ByteArray.size_append]; show 3 + hx.size + 1 ≤ 100; omega))); rintro e w1 ⟨rfl, hb1, hB1, hO1⟩; have HB1 := Aside0.mk hb1; have HL1 := Aside0.mk ((below_alloc HL.out _).trans hB1); have HR1 := Aside0.mk (R_others (Kd.R_alloc HR.out _) rfl hO1 (by decide) (Nat.lt_succ_self _)); clear hb1 hB1 hO1))
        go_roundw
        case rel => exact QRel.next hlt HB1.out (by rw [HX.out]; simp [escOf]) HL1.out HR1.out
        case measure => simp [intOf]; omega
      have t13b : (f0 == 13) = false := by simpa using t13
      by_cases t9 : f0 = 9
      · subst t9
        go_wp2_with (first
          | (go_at_call 45; refine (Bd.write (HB.out.alloc _) _ ?h4).mono ?_; (case h4 => exact write_len HQ.out (by first | decide | (simp only [ByteArray.size_append]; show 3 + hx.size + 1 ≤ 100; omega))); rintro e w1 ⟨rfl, hb1, hB1, hO1⟩; have HB1 := Aside0.mk hb1; have HL1 := Aside0.mk ((below_alloc HL.out _).trans hB1); have HR1 := Aside0.mk (R_others (Kd.R_alloc HR.out _) rfl hO1 (by decide) (Nat.lt_succ_self _)); clear hb1 hB1 hO1))
        go_roundw
        case rel => exact QRel.next hlt HB1.out (by rw [HX.out]; simp [escOf]) HL1.out HR1.out
        case measure => simp [intOf]; omega
      have t9b : (f0 == 9) = false := by simpa using t9
      by_cases t34 : f0 = 34
      · subst t34
        have tk0 : True := trivial
        go_wp2_with (first
          | (have _u := tk0; clear tk0; go_at_call 66; refine (Bd.byte (HB.out.alloc _) 92 ?h4).mono ?_; (case h4 => have := HQ.out; first | omega | (simp only [List.length_append, List.length_cons, List.length_nil]; omega)); rintro e w1 ⟨rfl, hb1, hB1, hO1⟩; have hOx := Aside0.mk hO1; have HB1 := Aside0.mk hb1; have HL1 := Aside0.mk ((below_alloc HL.out _).trans hB1); have HR1 := Aside0.mk (R_others (Kd.R_alloc HR.out _) rfl hO1 (by decide) (Nat.lt_succ_self _)); clear hb1 hB1 hO1; have hcz := keep_blk (g := w.heap.size) hOx.out (blk_new wr _) (by have := HB.out.lt; omega) (by decide); have hcz0 := (blk_cell hcz 0).trans rfl; have hcz2 := (blk_cell hcz 2).trans rfl; clear hcz)
          | (have _u := hOx; go_at_call 66; refine (Bd.byte HB1.out 34 ?h5).mono ?_; (case h5 => have := HQ.out; first | omega | (simp only [List.length_append, List.length_cons, List.length_nil]; omega)); rintro e w2 ⟨rfl, hb2, hB2, hO2⟩; have HB2 := Aside0.mk hb2; have HL2 := Aside0.mk (HL1.out.trans hB2); have HR2 := Aside0.mk (R_others HR1.out rfl hO2 (by decide) (Nat.lt_succ_self _)); clear hb2 hB2 hO2; clear hOx))
        go_roundw
        case rel => exact QRel.next hlt HB2.out (by rw [HX.out]; simp [escOf]) HL2.out HR2.out
        case measure => simp [intOf]; omega
      have t34b : (f0 == 34) = false := by simpa using t34
      by_cases t92 : f0 = 92
      · subst t92
        have tk0 : True := trivial
        go_wp2_with (first
          | (have _u := tk0; clear tk0; go_at_call 66; refine (Bd.byte (HB.out.alloc _) 92 ?h4).mono ?_; (case h4 => have := HQ.out; first | omega | (simp only [List.length_append, List.length_cons, List.length_nil]; omega)); rintro e w1 ⟨rfl, hb1, hB1, hO1⟩; have hOx := Aside0.mk hO1; have HB1 := Aside0.mk hb1; have HL1 := Aside0.mk ((below_alloc HL.out _).trans hB1); have HR1 := Aside0.mk (R_others (Kd.R_alloc HR.out _) rfl hO1 (by decide) (Nat.lt_succ_self _)); clear hb1 hB1 hO1; have hcz := keep_blk (g := w.heap.size) hOx.out (blk_new wr _) (by have := HB.out.lt; omega) (by decide); have hcz0 := (blk_cell hcz 0).trans rfl; have hcz2 := (blk_cell hcz 2).trans rfl; clear hcz)
          | (have _u := hOx; go_at_call 66; refine (Bd.byte HB1.out 92 ?h5).mono ?_; (case h5 => have := HQ.out; first | omega | (simp only [List.length_append, List.length_cons, List.length_nil]; omega)); rintro e w2 ⟨rfl, hb2, hB2, hO2⟩; have HB2 := Aside0.mk hb2; have HL2 := Aside0.mk (HL1.out.trans hB2); have HR2 := Aside0.mk (R_others HR1.out rfl hO2 (by decide) (Nat.lt_succ_self _)); clear hb2 hB2 hO2; clear hOx))
        go_roundw
        case rel => exact QRel.next hlt HB2.out (by rw [HX.out]; simp [escOf]) HL2.out HR2.out
        case measure => simp [intOf]; omega
      have t92b : (f0 == 92) = false := by simpa using t92
      by_cases l32 : f0 < 32
      · have d1 : decide (f0 < 32) = true := by simpa using l32
        go_wp2_with (first
          | (go_at_call 68; refine (hex_any _ ?h1 ?h2 _ ?h3).mono ?_; (case h1 => omega); (case h2 => omega); (case h3 => exact HGW.out.below (below_alloc HL.out _)); rintro e w1 ⟨hx, rfl, HX1, hx2, hb1⟩; have HB1 := Aside0.mk ((HB.out.alloc _).below hb1); have HL1 := Aside0.mk (below_step (below_alloc HL.out _) hb1); have HR1 := Aside0.mk (Kd.R_below (Kd.R_alloc HR.out _) hb1); clear hb1; have hz1 : (9223372036854775807 < 3 + hx.size) = False := eq_false (by omega); have hz2 : (9223372036854775807 < 3 + hx.size + 1) = False := eq_false (by omega))
          | (go_at_call 45; refine (Bd.write HB1.out _ ?h4).mono ?_; (case h4 => exact write_len HQ.out (by first | decide | (simp only [ByteArray.size_append]; show 3 + hx.size + 1 ≤ 100; omega))); rintro e w2 ⟨rfl, hb2, hB2, hO2⟩; have HB2 := Aside0.mk hb2; have HL2 := Aside0.mk (HL1.out.trans hB2); have HR2 := Aside0.mk (R_others HR1.out rfl hO2 (by decide) (Nat.lt_succ_self _)); clear hb2 hB2 hO2))
        go_roundw
        case rel => exact QRel.next hlt HB2.out (by rw [HX.out]; rw [escOf, if_neg (by simp [t1]), if_neg t10, if_neg t13, if_neg t9, if_neg (by simp [t34, t92]), if_pos (by simp; omega)]; simp [HX1.out]) HL2.out HR2.out
        case measure => simp [intOf]; omega
      by_cases g126 : f0 > 126
      · have d1 : decide (f0 < 32) = false := by simp; omega
        have d2 : decide (f0 > 126) = true := by simp; omega
        go_wp2_with (first
          | (go_at_call 68; refine (hex_any _ ?h1 ?h2 _ ?h3).mono ?_; (case h1 => omega); (case h2 => omega); (case h3 => exact HGW.out.below (below_alloc HL.out _)); rintro e w1 ⟨hx, rfl, HX1, hx2, hb1⟩; have HB1 := Aside0.mk ((HB.out.alloc _).below hb1); have HL1 := Aside0.mk (below_step (below_alloc HL.out _) hb1); have HR1 := Aside0.mk (Kd.R_below (Kd.R_alloc HR.out _) hb1); clear hb1; have hz1 : (9223372036854775807 < 3 + hx.size) = False := eq_false (by omega); have hz2 : (9223372036854775807 < 3 + hx.size + 1) = False := eq_false (by omega))
          | (go_at_call 45; refine (Bd.write HB1.out _ ?h4).mono ?_; (case h4 => exact write_len HQ.out (by first | decide | (simp only [ByteArray.size_append]; show 3 + hx.size + 1 ≤ 100; omega))); rintro e w2 ⟨rfl, hb2, hB2, hO2⟩; have HB2 := Aside0.mk hb2; have HL2 := Aside0.mk (HL1.out.trans hB2); have HR2 := Aside0.mk (R_others HR1.out rfl hO2 (by decide) (Nat.lt_succ_self _)); clear hb2 hB2 hO2))
        go_roundw
        case rel => exact QRel.next hlt HB2.out (by rw [HX.out]; rw [escOf, if_neg (by simp [t1]), if_neg t10, if_neg t13, if_neg t9, if_neg (by simp [t34, t92]), if_pos (by simp; omega)]; simp [HX1.out]) HL2.out HR2.out
        case measure => simp [intOf]; omega
      have d1 : decide (f0 < 32) = false := by simp; omega
      have d2 : decide (f0 > 126) = false := by simp; omega
      have h8 : f0 % 256 = f0 := by omega
      obtain ⟨c8, rfl⟩ : ∃ c8 : UInt8, f0 = (c8.toNat : Int) := ⟨f0.toNat.toUInt8, by simp [Nat.toUInt8]; omega⟩
      go_wp2_with (first
        | (go_at_call 66; refine (Bd.byte (HB.out.alloc _) c8 ?h4).mono ?_; (case h4 => have := HQ.out; first | omega | (simp only [List.length_append, List.length_cons, List.length_nil]; omega)); rintro e w1 ⟨rfl, hb1, hB1, hO1⟩; have HB1 := Aside0.mk hb1; have HL1 := Aside0.mk ((below_alloc HL.out _).trans hB1); have HR1 := Aside0.mk (R_others (Kd.R_alloc HR.out _) rfl hO1 (by decide) (Nat.lt_succ_self _)); clear hb1 hB1 hO1))
      go_roundw
      case rel => exact QRel.next hlt HB1.out (by rw [HX.out]; rw [escOf, if_neg (by simp [t1]), if_neg t10, if_neg t13, if_neg t9, if_neg (by simp [t34, t92]), if_neg (by simp; omega)]; simp) HL1.out HR1.out
      case measure => simp [intOf]; omega
    · have hke : k = rs.length := by omega
      subst hke
      rw [List.take_of_length_le (Nat.le_refl _)] at hb
      have HB := Aside0.mk hb
      have HL := Aside0.mk hB
      clear hb hB hR
      have hq : ((⟨(quoteB a0 rs).toArray⟩ : ByteArray)).size ≤ 140737488355000 := by
        have h1 := flatMap_esc_len a0 rs
        simp only [quoteB, ByteArray.size, List.size_toArray, List.length_cons]; omega
      have hq2 : (9223372036854775807 < ((⟨(quoteB a0 rs).toArray⟩ : ByteArray)).size + 1) = False := by simp; omega
      have hq3 : (9223372036854775807 < (quoteB a0 rs).length + 1) = False := eq_false (by have := hq; simp only [ByteArray.size, List.size_toArray] at this; omega)
      go_wp2_with (go_at_call 46; refine (HB.out.string).mono ?_; rintro e w3 ⟨rfl, hB3⟩; have HL3 := Aside0.mk (HL.out.trans hB3); clear hB3)
      go_ret
      exact ⟨by rw [← HP.out]; rfl, HL3.out⟩
end Go.Proofs.YtphmgaijkdflnaaDoor.H
end
section
namespace Go.Proofs.YtphmgaijkdflnaaDoor.H
open Go.RowKit Go.Shelf Go.Proofs.YtphmgaijkdflnaaDoorW.PrintWords Go.Proofs.YtphmgaijkdflnaaDoorW.PrintLast Go.Proofs.YtphmgaijkdflnaaDoorW.PrintMore
open Go.Maps
set_option linter.unusedVariables false
set_option linter.unusedSimpArgs false
def bput (acc : List UInt8) (s : ByteArray) : Option (List UInt8) := if acc.length + s.size ≤ 140737488355328 then some (acc ++ s.data.toList) else none
theorem bput.some {acc o : List UInt8} {s : ByteArray} (h : bput acc s = some o) : acc.length + s.size ≤ 140737488355328 ∧ o = acc ++ s.data.toList := by
  unfold bput at h
  split at h
  · rename_i q; exact ⟨q, (Option.some.inj h).symm⟩
  · cases h
section
variable (l0_0 l0_1 : List ByteArray) (l0_2 : List Int) (l0_3 : List S58) (l0_4 : List S61)
mutual
def showN : S26 → Option ByteArray
  | ⟨f0, f1, f2, f3, f4, f5, ks⟩ => if f0 = 0 then some ⟨#[36, 101, 110, 100]⟩ else (grammar_Sym.f l0_0 l0_1 l0_2 l0_3 l0_4 f0).bind fun name =>
    if 0 < f0 then (if f3 = 1 then (if name.size ≤ 140737488355327 then some ((⟨#[33]⟩ : ByteArray) ++ name) else none) else text_Quote.f f5)
    else (bput (if f3 = 2 then [40, 33] else [40]) name).bind fun a => (showL a ks).bind fun b => (bput b ⟨#[41]⟩).map fun l => ⟨l.toArray⟩
def showL : List UInt8 → List S26 → Option (List UInt8)
  | acc, [] => some acc
  | acc, k :: r => (showN k).bind fun t => (bput acc ((⟨#[32]⟩ : ByteArray) ++ t)).bind fun a => showL a r
end
theorem showN_eq (x : S26) : showN l0_0 l0_1 l0_2 l0_3 l0_4 x = if x.f0 = 0 then some ⟨#[36, 101, 110, 100]⟩ else (grammar_Sym.f l0_0 l0_1 l0_2 l0_3 l0_4 x.f0).bind fun name =>
    if 0 < x.f0 then (if x.f3 = 1 then (if name.size ≤ 140737488355327 then some ((⟨#[33]⟩ : ByteArray) ++ name) else none) else text_Quote.f x.f5)
    else (bput (if x.f3 = 2 then [40, 33] else [40]) name).bind fun a => (showL l0_0 l0_1 l0_2 l0_3 l0_4 a x.f6).bind fun b => (bput b ⟨#[41]⟩).map fun l => ⟨l.toArray⟩ := by
  cases x; simp only [showN]
def cst_Show.f (a1_0 : Int) (a1_1 : Int) (a1_2 : Int) (a1_3 : Int) (l1_4 : List S46) (a1_5 : ByteArray) (l1_6 : List S26) : Option ByteArray := showN l0_0 l0_1 l0_2 l0_3 l0_4 ⟨a1_0, a1_1, a1_2, a1_3, l1_4, a1_5, l1_6⟩
end
section
variable {w W : World} {A0 : Option Addr} {c0 : Nat} {l0_0 : List ByteArray} {A1 : Option Addr} {c1 : Nat} {l0_1 : List ByteArray} {A2 : Option Addr} {c2 : Nat} {l0_2 : List Int} {A3 : Option Addr} {c3 : Nat} {l0_3 : List S58} {A4 : Option Addr} {c4 : Nat} {l0_4 : List S61}
theorem InG.sym {s : Int} {r : ByteArray} (G : InG W A0 c0 l0_0 A1 c1 l0_1 A2 c2 l0_2 A3 c3 l0_3 A4 c4 l0_4) (h : grammar_Sym.f l0_0 l0_1 l0_2 l0_3 l0_4 s = some r) :
    Calls Tryd.prog 43 #[.agg #[.slice A0 l0_0.length c0, .slice A1 l0_1.length c1, .slice A2 l0_2.length c2, .slice A3 l0_3.length c3, .slice A4 l0_4.length c4], .int .i64 s] W fun e w' => e = .returned (.string r) ∧ Below W.heap.size W w' :=
  grammar_Sym.calls _ _ _ _ _ _ _ _ _ _ _ _ _ _ _ s r W G.r0 G.h0 G.r1 G.h1 G.r2 G.h2 G.r3 G.h3 G.r4 G.h4 h
end
theorem kc2 {w W : World} {p : Addr} {v : Value} (hb : Below w.heap.size w W) (h : w.cell? p = some v) : W.cell? p = some v := (hb.cell (World.block_lt_of_cell? w _ h)).trans h
structure SV (w : World) (A0 : Option Addr) (c0 : Nat) (l0_0 : List ByteArray) (A1 : Option Addr) (c1 : Nat) (l0_1 : List ByteArray) (A2 : Option Addr) (c2 : Nat) (l0_2 : List Int) (A3 : Option Addr) (c3 : Nat) (l0_3 : List S58) (A4 : Option Addr) (c4 : Nat) (l0_4 : List S61) (x : S26) (B4 : Option Addr) (d4 : Nat) (B6 : Option Addr) (d6 : Nat) (W : World) : Prop where
  B : Below w.heap.size w W
  g : GB W w.heap.size A0 c0 l0_0 A1 c1 l0_1 A2 c2 l0_2 A3 c3 l0_3 A4 c4 l0_4
  n : W.heap[w.heap.size + 1]? = some (.cells #[.int .i64 x.f0, .int .i64 x.f1, .int .i64 x.f2, .int .i64 x.f3, .slice B4 x.f4.length d4, .string x.f5, .slice B6 x.f6.length d6] 26 (0, 0))
section
variable {w W W' : World} {A0 : Option Addr} {c0 : Nat} {l0_0 : List ByteArray} {A1 : Option Addr} {c1 : Nat} {l0_1 : List ByteArray} {A2 : Option Addr} {c2 : Nat} {l0_2 : List Int} {A3 : Option Addr} {c3 : Nat} {l0_3 : List S58} {A4 : Option Addr} {c4 : Nat} {l0_4 : List S61} {x : S26} {B4 : Option Addr} {d4 : Nat} {B6 : Option Addr} {d6 : Nat}
theorem SV.below (h : SV w A0 c0 l0_0 A1 c1 l0_1 A2 c2 l0_2 A3 c3 l0_3 A4 c4 l0_4 x B4 d4 B6 d6 W) (hb : Below W.heap.size W W') : SV w A0 c0 l0_0 A1 c1 l0_1 A2 c2 l0_2 A3 c3 l0_3 A4 c4 l0_4 x B4 d4 B6 d6 W' :=
  ⟨h.B.trans (hb.mono h.B.size), h.g.below hb, blk_below h.n hb⟩
theorem SV.size (h : SV w A0 c0 l0_0 A1 c1 l0_1 A2 c2 l0_2 A3 c3 l0_3 A4 c4 l0_4 x B4 d4 B6 d6 W) : w.heap.size + 1 < W.heap.size := (Array.getElem?_eq_some_iff.1 h.n).1
theorem SV.write {bb : Nat} {acc : List UInt8} (h : SV w A0 c0 l0_0 A1 c1 l0_1 A2 c2 l0_2 A3 c3 l0_3 A4 c4 l0_4 x B4 d4 B6 d6 W) (hd : Bd bb acc W) (hw : w.heap.size + 1 < bb) (s : ByteArray) (hlen : acc.length + s.size ≤ 140737488355328) :
    Calls Tryd.prog 45 #[.pointer (some ⟨bb, 0, none⟩), .string s] W fun e w' => e = .returned (.tuple #[.int .i64 s.size, .nilIface]) ∧ SV w A0 c0 l0_0 A1 c1 l0_1 A2 c2 l0_2 A3 c3 l0_3 A4 c4 l0_4 x B4 d4 B6 d6 w' ∧ Bd bb (acc ++ s.data.toList) w' := by
  refine (hd.write s hlen).mono ?_
  rintro e w' ⟨rfl, hd2, hbl, hk⟩
  exact ⟨rfl, ⟨h.B.trans (hbl.mono (by omega)), (hbl.block _ (by omega)).trans h.g, (hbl.block _ hw).trans h.n⟩, hd2⟩
theorem SV.start : SV w A0 c0 l0_0 A1 c1 l0_1 A2 c2 l0_2 A3 c3 l0_3 A4 c4 l0_4 x B4 d4 B6 d6 ((w.alloc (.cells #[.slice A0 l0_0.length c0, .slice A1 l0_1.length c1, .slice A2 l0_2.length c2, .slice A3 l0_3.length c3, .slice A4 l0_4.length c4] 40)).alloc (.cells #[.int .i64 x.f0, .int .i64 x.f1, .int .i64 x.f2, .int .i64 x.f3, .slice B4 x.f4.length d4, .string x.f5, .slice B6 x.f6.length d6] 26)) := by
  refine ⟨below_alloc (below_alloc (Below.refl _ _) _) _, blk_alloc (blk_new w _) _, ?_⟩
  have := blk_new (w.alloc (.cells #[.slice A0 l0_0.length c0, .slice A1 l0_1.length c1, .slice A2 l0_2.length c2, .slice A3 l0_3.length c3, .slice A4 l0_4.length c4] 40)) (.cells #[.int .i64 x.f0, .int .i64 x.f1, .int .i64 x.f2, .int .i64 x.f3, .slice B4 x.f4.length d4, .string x.f5, .slice B6 x.f6.length d6] 26)
  simpa using this
theorem SV.cells (h : SV w A0 c0 l0_0 A1 c1 l0_1 A2 c2 l0_2 A3 c3 l0_3 A4 c4 l0_4 x B4 d4 B6 d6 W) : W.cell? ⟨w.heap.size + 1, 0, none⟩ = some (.int .i64 x.f0) ∧ W.cell? ⟨w.heap.size + 1, 3, none⟩ = some (.int .i64 x.f3) ∧ W.cell? ⟨w.heap.size + 1, 5, none⟩ = some (.string x.f5) ∧ W.cell? ⟨w.heap.size + 1, 6, none⟩ = some (.slice B6 x.f6.length d6) :=
  ⟨(blk_cell h.n 0).trans rfl, (blk_cell h.n 3).trans rfl, (blk_cell h.n 5).trans rfl, (blk_cell h.n 6).trans rfl⟩
end
set_option maxRecDepth 100000 in
set_option maxHeartbeats 4000000 in
theorem show_walk (A0 : Option Addr) (c0 : Nat) (l0_0 : List ByteArray) (A1 : Option Addr) (c1 : Nat) (l0_1 : List ByteArray) (A2 : Option Addr) (c2 : Nat) (l0_2 : List Int) (A3 : Option Addr) (c3 : Nat) (l0_3 : List S58) (A4 : Option Addr) (c4 : Nat) (l0_4 : List S61) (n : Nat) : ∀ (x : S26) (B4 : Option Addr) (d4 : Nat) (B6 : Option Addr) (d6 : Nat) (r : ByteArray) (w : World), SizeOf.sizeOf x < n → GW w → InG w A0 c0 l0_0 A1 c1 l0_1 A2 c2 l0_2 A3 c3 l0_3 A4 c4 l0_4 → NodeE.Ok w ⟨x, B4, d4, B6, d6⟩ → showN l0_0 l0_1 l0_2 l0_3 l0_4 x = some r →
    Calls Tryd.prog 26 #[.agg #[.slice A0 l0_0.length c0, .slice A1 l0_1.length c1, .slice A2 l0_2.length c2, .slice A3 l0_3.length c3, .slice A4 l0_4.length c4], .agg #[.int .i64 x.f0, .int .i64 x.f1, .int .i64 x.f2, .int .i64 x.f3, .slice B4 x.f4.length d4, .string x.f5, .slice B6 x.f6.length d6]] w fun e w' => e = .returned (.string r) ∧ Below w.heap.size w w' := by
  induction n with
  | zero => intro x _ _ _ _ _ _ h; omega
  | succ n ih =>
    intro x B4 d4 B6 d6 r w hs hgw hg hok h
    have IH := Aside0.mk ih
    have HGW := Aside0.mk hgw
    have HG := Aside0.mk hg
    have HOK := Aside0.mk hok
    have HSZ := Aside0.mk hs
    have S0 := Aside0.mk (SV.start (w := w) (A0 := A0) (c0 := c0) (l0_0 := l0_0) (A1 := A1) (c1 := c1) (l0_1 := l0_1) (A2 := A2) (c2 := c2) (l0_2 := l0_2) (A3 := A3) (c3 := c3) (l0_3 := l0_3) (A4 := A4) (c4 := c4) (l0_4 := l0_4) (x := x) (B4 := B4) (d4 := d4) (B6 := B6) (d6 := d6))
    have hn6 : x.f6.length ≤ 9223372036854775807 := HOK.out.g6.2.1
    rw [showN_eq] at h
    clear ih hgw hg hok hs
    by_cases h0 : x.f0 = 0
    case pos =>
      rw [if_pos h0] at h
      obtain rfl := Option.some.inj h
      have h0b : (x.f0 == 0) = true := beq_iff_eq.mpr h0
      clear h0 h
      go_enter Tryd.func26, Tryd.ntmps26
      go_wp2_with fail
      go_ret
      exact ⟨rfl, S0.out.B⟩
    rw [if_neg h0] at h
    have h0b : (x.f0 == 0) = false := beq_eq_false_iff_ne.mpr h0
    obtain ⟨name, hname, h⟩ := Option.bind_eq_some_iff.1 h
    have HN := Aside0.mk hname
    clear hname
    go_enter Tryd.func26, Tryd.ntmps26
    by_cases h1 : 0 < x.f0
    case pos =>
      rw [if_pos h1] at h
      have h1b : decide (0 < x.f0) = true := decide_eq_true h1
      clear h1 h0
      by_cases h2 : x.f3 = 1
      case pos =>
        rw [if_pos h2] at h
        have h2b : (x.f3 == 1) = true := beq_iff_eq.mpr h2
        split at h
        case isFalse => cases h
        rename_i hsz
        obtain rfl := Option.some.inj h
        have hq : 1 + name.size ≤ 9223372036854775807 := by omega
        clear h2 h hsz
        go_wp2_with fail
        refine (InG.sym (HG.out.below S0.out.B) HN.out).mono ?_
        rintro e w1 ⟨rfl, hb⟩
        have S1 := Aside0.mk (S0.out.below hb)
        obtain ⟨n0, n3, n5, n6⟩ := S1.out.cells
        clear hb
        go_wp2_with fail
        go_ret
        exact ⟨rfl, S1.out.B⟩
      rw [if_neg h2] at h
      have h2b : (x.f3 == 1) = false := beq_eq_false_iff_ne.mpr h2
      have HQ := Aside0.mk h
      clear h2 h
      go_wp2_with fail
      refine (InG.sym (HG.out.below S0.out.B) HN.out).mono ?_
      rintro e w1 ⟨rfl, hb⟩
      have S1 := Aside0.mk (S0.out.below hb)
      obtain ⟨n0, n3, n5, n6⟩ := S1.out.cells
      clear hb
      go_wp2_with fail
      refine (text_Quote.calls _ _ _ (GW.below HGW.out S1.out.B) HQ.out).mono ?_
      rintro e w2 ⟨rfl, hb⟩
      have HB2 := Aside0.mk hb
      clear hb
      go_wp2_with fail
      go_ret
      exact ⟨rfl, S1.out.B.trans (HB2.out.mono S1.out.B.size)⟩
    rw [if_neg h1] at h
    have h1b : decide (0 < x.f0) = false := decide_eq_false h1
    clear h1 h0
    obtain ⟨a, ha, h⟩ := Option.bind_eq_some_iff.1 h
    obtain ⟨b, hb, h⟩ := Option.bind_eq_some_iff.1 h
    obtain ⟨l, hl, rfl⟩ := Option.map_eq_some_iff.1 h
    have HA := Aside0.mk ha
    have HBL := Aside0.mk hb
    have HL := Aside0.mk hl
    clear h ha hb hl
    go_wp2_with fail
    refine (InG.sym (HG.out.below S0.out.B) HN.out).mono ?_
    rintro e w1 ⟨rfl, hb⟩
    have S1 := Aside0.mk (S0.out.below hb)
    obtain ⟨n0, n3, n5, n6⟩ := S1.out.cells
    clear hb
    go_wp2_with fail
    have S2 := Aside0.mk (S1.out.below (below_alloc (Below.refl w1.heap.size w1) (.cells #[.pointer none, .slice none 0 0] 69)))
    have D2 := Aside0.mk (Bd.new w1)
    have hbb := S1.out.size
    obtain ⟨w2, hw2⟩ : ∃ w2, w1.alloc (.cells #[.pointer none, .slice none 0 0] 69) = w2 := ⟨_, rfl⟩
    rw [hw2] at S2 D2 ⊢
    clear hw2
    obtain ⟨bb, hb0⟩ : ∃ bb, w1.heap.size = bb := ⟨_, rfl⟩
    rw [hb0] at D2 hbb ⊢
    clear hb0 S1 n0 n3 n5 n6
    refine (S2.out.write D2.out hbb ⟨#[40]⟩ (by simp; exact (by decide : (1:Nat) ≤ 140737488355328))).mono ?_
    rintro e w3 ⟨rfl, hS, hD⟩
    have S3 := Aside0.mk hS
    have D3 := Aside0.mk (show Bd bb [40] w3 from hD)
    clear hS hD S2 D2
    obtain ⟨n0, n3, n5, n6⟩ := S3.out.cells
    go_upto_if 30 with fail
    go_cut [30] (fun v30 wc => Aside0 (SV w A0 c0 l0_0 A1 c1 l0_1 A2 c2 l0_2 A3 c3 l0_3 A4 c4 l0_4 x B4 d4 B6 d6 wc) ∧ Aside0 (Bd bb (if x.f3 = 2 then [40, 33] else [40]) wc))
    case first =>
      by_cases h3 : x.f3 = 2
      case pos =>
        have h3b : (x.f3 == 2) = true := beq_iff_eq.mpr h3
        go_wp2_with fail
        refine (S3.out.write D3.out hbb ⟨#[33]⟩ (by simp; exact (by decide : (2:Nat) ≤ 140737488355328))).mono ?_
        rintro e w4 ⟨rfl, hS, hD⟩
        have S4 := Aside0.mk hS
        have D4 := Aside0.mk (show Bd bb (if x.f3 = 2 then [40, 33] else [40]) w4 by rw [if_pos h3]; exact hD)
        clear hS hD h3
        go_wp2_with fail
        go_meet
        case rel => exact ⟨S4, D4⟩
      case neg =>
        have h3b : (x.f3 == 2) = false := beq_eq_false_iff_ne.mpr h3
        have D4 := Aside0.mk (show Bd bb (if x.f3 = 2 then [40, 33] else [40]) w3 by rw [if_neg h3]; exact D3.out)
        clear h3
        go_wp2_with fail
        go_meet
        case rel => exact ⟨S3, D4⟩
    case rest =>
      clear S3 D3 n0 n3 n5 n6
      obtain ⟨S3, D3⟩ := hcut
      obtain ⟨hpl, rfl⟩ := bput.some HA.out
      have HPL := Aside0.mk hpl
      clear HA hpl
      go_wp2_with fail
      refine (S3.out.write D3.out hbb name HPL.out).mono ?_
      rintro e w4 ⟨rfl, hS, hD⟩
      have S4 := Aside0.mk hS
      have D4 := Aside0.mk hD
      clear hS hD S3 D3
      obtain ⟨n0, n3, n5, n6⟩ := S4.out.cells
      go_wp2_with fail
      go_loopw [37] (fun v37 wr => ∃ (i : Nat) (acc : List UInt8), v37 = .int .i64 (i : Int) ∧ i ≤ x.f6.length ∧ Aside0 (showL l0_0 l0_1 l0_2 l0_3 l0_4 acc (x.f6.drop i) = some b) ∧ Aside0 (SV w A0 c0 l0_0 A1 c1 l0_1 A2 c2 l0_2 A3 c3 l0_3 A4 c4 l0_4 x B4 d4 B6 d6 wr) ∧ Aside0 (Bd bb acc wr)) (fun v37 _ => match v37 with | .int _ z => x.f6.length - z.toNat | _ => 0)
      case atStart => exact ⟨0, _, rfl, Nat.zero_le _, HBL, S4, D4⟩
      case round =>
        clear HBL S4 D4 n0 n3 n5 n6
        obtain ⟨i, acc, rfl, hi, HBL, S4, D4⟩ := hrel
        obtain ⟨n0, n3, n5, n6⟩ := S4.out.cells
        by_cases hlt : i < x.f6.length
        · have hlt2 : decide ((i : Int) < (x.f6.length : Int)) = true := decide_eq_true (by omega)
          obtain ⟨ad, d, e1, hdx, hok, hc⟩ := kid_at HOK.out i hlt
          have e1' : B6 = some ad := e1
          subst e1'
          clear e1
          obtain ⟨x2, E4, f4, E6, f6⟩ := d
          dsimp only at hdx
          have q0 : wr.cell? (ad.add (i * 7)) = some (.int .i64 x2.f0) := kc2 S4.out.B (hc 0 _ rfl)
          have q1 : wr.cell? ⟨(ad.add (i * 7)).block, (ad.add (i * 7)).off + 1, none⟩ = some (.int .i64 x2.f1) := by rw [← add_field _ _ 1 (by omega)]; exact kc2 S4.out.B (hc 1 _ rfl)
          have q2 : wr.cell? ⟨(ad.add (i * 7)).block, (ad.add (i * 7)).off + 2, none⟩ = some (.int .i64 x2.f2) := by rw [← add_field _ _ 2 (by omega)]; exact kc2 S4.out.B (hc 2 _ rfl)
          have q3 : wr.cell? ⟨(ad.add (i * 7)).block, (ad.add (i * 7)).off + 3, none⟩ = some (.int .i64 x2.f3) := by rw [← add_field _ _ 3 (by omega)]; exact kc2 S4.out.B (hc 3 _ rfl)
          have q4 : wr.cell? ⟨(ad.add (i * 7)).block, (ad.add (i * 7)).off + 4, none⟩ = some (.slice E4 x2.f4.length f4) := by rw [← add_field _ _ 4 (by omega)]; exact kc2 S4.out.B (hc 4 _ rfl)
          have q5 : wr.cell? ⟨(ad.add (i * 7)).block, (ad.add (i * 7)).off + 5, none⟩ = some (.string x2.f5) := by rw [← add_field _ _ 5 (by omega)]; exact kc2 S4.out.B (hc 5 _ rfl)
          have q6 : wr.cell? ⟨(ad.add (i * 7)).block, (ad.add (i * 7)).off + 6, none⟩ = some (.slice E6 x2.f6.length f6) := by rw [← add_field _ _ 6 (by omega)]; exact kc2 S4.out.B (hc 6 _ rfl)
          have h := HBL.out
          rw [List.drop_eq_getElem_cons hlt, ← hdx] at h
          simp only [showL] at h
          obtain ⟨t, ht, h⟩ := Option.bind_eq_some_iff.1 h
          obtain ⟨a2, ha2, h⟩ := Option.bind_eq_some_iff.1 h
          obtain ⟨hpl, rfl⟩ := bput.some ha2
          have HT := Aside0.mk ht
          have HBL2 := Aside0.mk h
          have HPL := Aside0.mk hpl
          have hsz : SizeOf.sizeOf x2 < n := by
            have h5 : SizeOf.sizeOf x.f6[i] < SizeOf.sizeOf x.f6 := List.sizeOf_lt_of_mem (List.getElem_mem hlt)
            have h6 : SizeOf.sizeOf x.f6 < SizeOf.sizeOf x := by cases x; simp; omega
            have h7 := HSZ.out
            rw [← hdx] at h5
            omega
          have HS2 := Aside0.mk hsz
          have HOK2 := Aside0.mk hok
          have hq2 : 1 + t.size ≤ 9223372036854775807 := by rw [ByteArray.size_append] at hpl; have : (⟨#[32]⟩ : ByteArray).size = 1 := rfl; omega
          have S5 := Aside0.mk (S4.out.below (below_alloc (Below.refl wr.heap.size wr) (.cells #[.int .i64 x2.f0, .int .i64 x2.f1, .int .i64 x2.f2, .int .i64 x2.f3, .slice E4 x2.f4.length f4, .string x2.f5, .slice E6 x2.f6.length f6] 26)))
          have D5 := Aside0.mk (D4.out.alloc (.cells #[.int .i64 x2.f0, .int .i64 x2.f1, .int .i64 x2.f2, .int .i64 x2.f3, .slice E4 x2.f4.length f4, .string x2.f5, .slice E6 x2.f6.length f6] 26))
          have hwl : w.heap.size + 1 < wr.heap.size := S4.out.size
          have hwl0 : w.heap.size < wr.heap.size := by omega
          have hwn : ¬ (w.heap.size = wr.heap.size) := by omega
          obtain ⟨g0, g1, g2, g3, g4⟩ := S4.out.g.cells
          have hm : x.f6.length - (i + 1) < x.f6.length - i := by omega
          have ew2 : wrap64 ((i : Int) + 1) = ((i + 1 : Nat) : Int) := by unfold wrap64; omega
          have HEW := Aside0.mk ew2
          clear h ht ha2 hpl hsz hok hc hdx HBL S4 D4 ew2
          go_wp2_with fail
          refine (IH.out x2 E4 f4 E6 f6 t _ HS2.out (GW.below HGW.out S5.out.B) (HG.out.below S5.out.B) (HOK2.out.step (fun k q => S5.out.B.block k q)) HT.out).mono ?_
          rintro e w5 ⟨rfl, hb⟩
          have S6 := Aside0.mk (S5.out.below hb)
          have D6 := Aside0.mk (D5.out.below hb)
          clear hb S5 D5 n0 n3 n5 n6 g0 g1 g2 g3 g4 q0 q1 q2 q3 q4 q5 q6
          go_wp2_with fail
          refine (S6.out.write D6.out hbb _ HPL.out).mono ?_
          rintro e w6 ⟨rfl, hS, hD⟩
          have S7 := Aside0.mk hS
          have D7 := Aside0.mk hD
          clear hS hD S6 D6
          have ew := HEW.out
          go_wp2_with fail
          refine ⟨⟨i + 1, _, ?_, hlt, HBL2, S7, D7⟩, ?_⟩
          · first | rfl | (simp; done) | (simp [ew]; done)
          · first | exact hm | (rw [ew]; exact hm)
        · have hlt2 : decide ((i : Int) < (x.f6.length : Int)) = false := decide_eq_false (by omega)
          have hie : i = x.f6.length := by omega
          have h := HBL.out
          rw [hie, List.drop_of_length_le (Nat.le_refl _)] at h
          simp only [showL] at h
          obtain rfl := Option.some.inj h
          obtain ⟨hpl, rfl⟩ := bput.some HL.out
          have HPL := Aside0.mk hpl
          clear h hie HBL HL hpl
          go_wp2_with fail
          refine (S4.out.write D4.out hbb ⟨#[41]⟩ HPL.out).mono ?_
          rintro e w5 ⟨rfl, hS, hD⟩
          have S5 := Aside0.mk hS
          have D5 := Aside0.mk hD
          clear hS hD S4 D4
          go_wp2_with fail
          refine (D5.out.string).mono ?_
          rintro e w6 ⟨rfl, hb⟩
          have HB6 := Aside0.mk (S5.out.B.trans (hb.mono (by omega)))
          clear hb
          go_wp2_with fail
          go_ret
          exact ⟨rfl, HB6.out⟩
theorem cst_Show.calls (A0_0 : Option Addr) (c0_0 : Nat) (l0_0 : List ByteArray) (A0_1 : Option Addr) (c0_1 : Nat) (l0_1 : List ByteArray) (A0_2 : Option Addr) (c0_2 : Nat) (l0_2 : List Int) (A0_3 : Option Addr) (c0_3 : Nat) (l0_3 : List S58) (A0_4 : Option Addr) (c0_4 : Nat) (l0_4 : List S61) (a1_0 : Int) (a1_1 : Int) (a1_2 : Int) (a1_3 : Int) (A1_4 : Option Addr) (c1_4 : Nat) (l1_4 : List S46) (a1_5 : ByteArray) (A1_6 : Option Addr) (c1_6 : Nat) (l1_6 : List S26) (r : ByteArray) (w : World) (hgw : GW w) (hr0_0 : Kd.C Kd.string w A0_0 l0_0.length l0_0) (hc0_0 : l0_0.length ≤ c0_0) (hr0_1 : Kd.C Kd.string w A0_1 l0_1.length l0_1) (hc0_1 : l0_1.length ≤ c0_1) (hr0_2 : Kd.C (Kd.int .i64) w A0_2 l0_2.length l0_2) (hc0_2 : l0_2.length ≤ c0_2) (hr0_3 : Kd.C k58 w A0_3 l0_3.length l0_3) (hc0_3 : l0_3.length ≤ c0_3) (hr0_4 : Kd.C k61 w A0_4 l0_4.length l0_4) (hc0_4 : l0_4.length ≤ c0_4) (hr1_4 : Kd.C k46 w A1_4 l1_4.length l1_4) (hc1_4 : l1_4.length ≤ c1_4) (hr1_6 : Kd.C k26 w A1_6 l1_6.length l1_6) (hc1_6 : l1_6.length ≤ c1_6) (h : cst_Show.f l0_0 l0_1 l0_2 l0_3 l0_4 a1_0 a1_1 a1_2 a1_3 l1_4 a1_5 l1_6 = some r) :
    Calls Tryd.prog 26 #[.agg #[.slice A0_0 l0_0.length c0_0, .slice A0_1 l0_1.length c0_1, .slice A0_2 l0_2.length c0_2, .slice A0_3 l0_3.length c0_3, .slice A0_4 l0_4.length c0_4], .agg #[.int .i64 a1_0, .int .i64 a1_1, .int .i64 a1_2, .int .i64 a1_3, .slice A1_4 l1_4.length c1_4, .string a1_5, .slice A1_6 l1_6.length c1_6]] w fun e w' => e = .returned (.string r) ∧ Below w.heap.size w w' :=
  show_walk _ _ _ _ _ _ _ _ _ _ _ _ _ _ _ _ ⟨a1_0, a1_1, a1_2, a1_3, l1_4, a1_5, l1_6⟩ A1_4 c1_4 A1_6 c1_6 r w (Nat.lt_succ_self _) hgw (InG.mk hr0_0 hc0_0 hr0_1 hc0_1 hr0_2 hc0_2 hr0_3 hc0_3 hr0_4 hc0_4) ⟨hc1_4, hr1_4, hc1_6, hr1_6⟩ h
end Go.Proofs.YtphmgaijkdflnaaDoor.H
end
section
namespace Go.Proofs.YtphmgaijkdflnaaDoor.H
open Go.RowKit Go.Shelf Go.Proofs.YtphmgaijkdflnaaDoorW.PrintWords Go.Proofs.YtphmgaijkdflnaaDoorW.PrintLast Go.Proofs.YtphmgaijkdflnaaDoorW.PrintMore
open Go.Maps
set_option linter.unusedVariables false
set_option linter.unusedSimpArgs false
section
variable {w W : World} {A0 : Option Addr} {c0 : Nat} {l0_0 : List ByteArray} {A1 : Option Addr} {c1 : Nat} {l0_1 : List ByteArray} {A2 : Option Addr} {c2 : Nat} {l0_2 : List Int} {A3 : Option Addr} {c3 : Nat} {l0_3 : List S58} {A4 : Option Addr} {c4 : Nat} {l0_4 : List S61} {y : S26} {B4 : Option Addr} {d4 : Nat} {B6 : Option Addr} {d6 : Nat} {z : S26} {C4 : Option Addr} {e4 : Nat} {C6 : Option Addr} {e6 : Nat}
theorem NodeE.Ok.clean (O : NodeE.Ok W ⟨y, B4, d4, B6, d6⟩) {r : Bool} (h : cst_Clean.f y.f0 y.f1 y.f2 y.f3 y.f4 y.f5 y.f6 = some r) : Calls Tryd.prog 19 #[.agg #[.int .i64 y.f0, .int .i64 y.f1, .int .i64 y.f2, .int .i64 y.f3, .slice B4 y.f4.length d4, .string y.f5, .slice B6 y.f6.length d6]] W fun e w' => e = .returned (.bool r) ∧ Below W.heap.size W w' :=
  cst_Clean.calls _ _ _ _ _ _ _ _ _ _ _ r W O.g4 O.l4 O.g6 O.l6 h
theorem NodeE.Ok.text (O : NodeE.Ok W ⟨y, B4, d4, B6, d6⟩) {r : ByteArray} (h : cst_Text.f y.f0 y.f1 y.f2 y.f3 y.f4 y.f5 y.f6 = some r) : Calls Tryd.prog 10 #[.agg #[.int .i64 y.f0, .int .i64 y.f1, .int .i64 y.f2, .int .i64 y.f3, .slice B4 y.f4.length d4, .string y.f5, .slice B6 y.f6.length d6]] W fun e w' => e = .returned (.string r) ∧ Below W.heap.size W w' :=
  cst_Text.calls _ _ _ _ _ _ _ _ _ _ _ r W O.g4 O.l4 O.g6 O.l6 h
theorem NodeE.Ok.len (O : NodeE.Ok W ⟨y, B4, d4, B6, d6⟩) {r : Int} (h : cst_Len.f y.f0 y.f1 y.f2 y.f3 y.f4 y.f5 y.f6 = some r) : Calls Tryd.prog 12 #[.agg #[.int .i64 y.f0, .int .i64 y.f1, .int .i64 y.f2, .int .i64 y.f3, .slice B4 y.f4.length d4, .string y.f5, .slice B6 y.f6.length d6]] W fun e w' => e = .returned (.int .i64 r) ∧ Below W.heap.size W w' :=
  cst_Len.calls _ _ _ _ _ _ _ _ _ _ _ r W O.g4 O.l4 O.g6 O.l6 h
theorem NodeE.Ok.leaves (O : NodeE.Ok W ⟨y, B4, d4, B6, d6⟩) {r : List S26} (h : cst_Leaves.f y.f0 y.f1 y.f2 y.f3 y.f4 y.f5 y.f6 = some r) : Calls Tryd.prog 17 #[.agg #[.int .i64 y.f0, .int .i64 y.f1, .int .i64 y.f2, .int .i64 y.f3, .slice B4 y.f4.length d4, .string y.f5, .slice B6 y.f6.length d6]] W fun e w' => ∃ A c, e = .returned (.slice A r.length c) ∧ Below W.heap.size W w' := by
  refine (cst_Leaves.calls _ _ _ _ _ _ _ _ _ _ _ r W O.g4 O.l4 O.g6 O.l6 h).mono ?_
  rintro e w' ⟨v, rfl, hR, hb⟩
  obtain ⟨A, c, rfl⟩ := Kd.R_slice hR
  exact ⟨A, c, rfl, hb⟩
theorem NodeE.Ok.same {k : Nat} (O : NodeE.Ok W ⟨y, B4, d4, B6, d6⟩) (O2 : NodeE.Ok W ⟨z, C4, e4, C6, e6⟩) {r : Bool} (h : cst_Same.f k y.f0 y.f1 y.f2 y.f3 y.f4 y.f5 y.f6 z.f0 z.f1 z.f2 z.f3 z.f4 z.f5 z.f6 = some r) : Calls Tryd.prog 21 #[.agg #[.int .i64 y.f0, .int .i64 y.f1, .int .i64 y.f2, .int .i64 y.f3, .slice B4 y.f4.length d4, .string y.f5, .slice B6 y.f6.length d6], .agg #[.int .i64 z.f0, .int .i64 z.f1, .int .i64 z.f2, .int .i64 z.f3, .slice C4 z.f4.length e4, .string z.f5, .slice C6 z.f6.length e6]] W fun e w' => e = .returned (.bool r) ∧ Below W.heap.size W w' :=
  cst_Same.calls k _ _ _ _ _ _ _ _ _ _ _ _ _ _ _ _ _ _ _ _ _ _ r W O.g4 O.l4 O.g6 O.l6 O2.g4 O2.l4 O2.g6 O2.l6 h
theorem InG.show_ (G : InG W A0 c0 l0_0 A1 c1 l0_1 A2 c2 l0_2 A3 c3 l0_3 A4 c4 l0_4) (hgw : GW W) (O : NodeE.Ok W ⟨y, B4, d4, B6, d6⟩) {r : ByteArray} (h : cst_Show.f l0_0 l0_1 l0_2 l0_3 l0_4 y.f0 y.f1 y.f2 y.f3 y.f4 y.f5 y.f6 = some r) : Calls Tryd.prog 26 #[.agg #[.slice A0 l0_0.length c0, .slice A1 l0_1.length c1, .slice A2 l0_2.length c2, .slice A3 l0_3.length c3, .slice A4 l0_4.length c4], .agg #[.int .i64 y.f0, .int .i64 y.f1, .int .i64 y.f2, .int .i64 y.f3, .slice B4 y.f4.length d4, .string y.f5, .slice B6 y.f6.length d6]] W fun e w' => e = .returned (.string r) ∧ Below W.heap.size W w' :=
  cst_Show.calls _ _ _ _ _ _ _ _ _ _ _ _ _ _ _ _ _ _ _ _ _ _ _ _ _ _ r W hgw G.r0 G.h0 G.r1 G.h1 G.r2 G.h2 G.r3 G.h3 G.r4 G.h4 O.g4 O.l4 O.g6 O.l6 h
theorem InG.cstright {k : Nat} (G : InG W A0 c0 l0_0 A1 c1 l0_1 A2 c2 l0_2 A3 c3 l0_3 A4 c4 l0_4) (O : NodeE.Ok W ⟨y, B4, d4, B6, d6⟩) {r : Bool} (h : cst_Right.f k l0_0 l0_1 l0_2 l0_3 l0_4 y.f0 y.f1 y.f2 y.f3 y.f4 y.f5 y.f6 = some r) : Calls Tryd.prog 24 #[.agg #[.slice A0 l0_0.length c0, .slice A1 l0_1.length c1, .slice A2 l0_2.length c2, .slice A3 l0_3.length c3, .slice A4 l0_4.length c4], .agg #[.int .i64 y.f0, .int .i64 y.f1, .int .i64 y.f2, .int .i64 y.f3, .slice B4 y.f4.length d4, .string y.f5, .slice B6 y.f6.length d6]] W fun e w' => e = .returned (.bool r) ∧ Below W.heap.size W w' :=
  cst_Right.calls k _ _ _ _ _ _ _ _ _ _ _ _ _ _ _ _ _ _ _ _ _ _ _ _ _ _ r W G.r0 G.h0 G.r1 G.h1 G.r2 G.h2 G.r3 G.h3 G.r4 G.h4 O.g4 O.l4 O.g6 O.l6 h
end
def plusN : S26 := ⟨-1, 0, 0, 0, [], ⟨#[]⟩, [nInner (-2) 1 [nInner (-2) 2 [nLeaf 2 (-1) 0 ⟨#[49]⟩], nLeaf 3 (-1) 0 ⟨#[43]⟩, nInner (-2) 2 [nLeaf 2 (-1) 1 ⟨#[]⟩]], nLeaf 0 (-1) 0 ⟨#[]⟩]⟩
theorem plus_any (P : S26) (hP : P = plusN) (w : World) : Calls Tryd.prog 30 #[] w fun e w' => ∃ A4 c4 A6 c6, e = .returned (.agg #[.int .i64 P.f0, .int .i64 P.f1, .int .i64 P.f2, .int .i64 P.f3, .slice A4 P.f4.length c4, .string P.f5, .slice A6 P.f6.length c6]) ∧ NodeE.Ok w' ⟨P, A4, c4, A6, c6⟩ ∧ Below w.heap.size w w' := by
  refine (arboristlaw42_Plus.calls P.f0 P.f1 P.f2 P.f3 P.f4 P.f5 P.f6 w (by rw [hP]; rfl)).mono ?_
  rintro e w' ⟨v0, v1, rfl, h4, h6, hb⟩
  obtain ⟨A4, c4, rfl⟩ := Kd.R_slice h4
  obtain ⟨A6, c6, rfl, hl6, hr6⟩ := Kd.N_reads h6
  obtain ⟨_, hl4, hr4⟩ := Kd.R_reads' h4
  exact ⟨A4, c4, A6, c6, rfl, ⟨hl4, hr4, hl6, hr6⟩, hb⟩
theorem sum_any (l0_0 l0_1 : List ByteArray) (l0_2 : List Int) (l0_3 : List S58) (l0_4 : List S61) (h : arboristlaw21_Sum.f = some (l0_0, l0_1, l0_2, l0_3, l0_4)) (w : World) :
    Calls Tryd.prog 29 #[] w fun e w' => ∃ A0 c0 A1 c1 A2 c2 A3 c3 A4 c4, e = .returned (.agg #[.slice A0 l0_0.length c0, .slice A1 l0_1.length c1, .slice A2 l0_2.length c2, .slice A3 l0_3.length c3, .slice A4 l0_4.length c4]) ∧ InG w' A0 c0 l0_0 A1 c1 l0_1 A2 c2 l0_2 A3 c3 l0_3 A4 c4 l0_4 ∧ Below w.heap.size w w' := by
  refine (arboristlaw21_Sum.calls _ _ _ _ _ w h).mono ?_
  rintro e w' ⟨v0, v1, v2, v3, v4, rfl, h0, h1, h2, h3, h4, hb⟩
  obtain ⟨A0, c0, rfl⟩ := Kd.R_slice h0
  obtain ⟨A1, c1, rfl⟩ := Kd.R_slice h1
  obtain ⟨A2, c2, rfl⟩ := Kd.R_slice h2
  obtain ⟨A3, c3, rfl, k3, g3⟩ := Kd.N_reads h3
  obtain ⟨A4, c4, rfl, k4, g4⟩ := Kd.N_reads h4
  exact ⟨_, _, _, _, _, _, _, _, _, _, rfl, ⟨(Kd.R_reads' h0).2.2, (Kd.R_reads' h0).2.1, (Kd.R_reads' h1).2.2, (Kd.R_reads' h1).2.1, (Kd.R_reads' h2).2.2, (Kd.R_reads' h2).2.1, g3, k3, g4, k4⟩, hb⟩
theorem kc3 {w W : World} {p : Addr} {v : Value} (hb : Below w.heap.size w W) (h : w.cell? p = some v) : W.cell? p = some v := (hb.cell (World.block_lt_of_cell? w _ h)).trans h
theorem keepS {w1 W W' : World} {p0 p1 p2 p3 p4 : Addr} {v0 v1 v2 v3 v4 : Value} (hb : Below W.heap.size W W') (h : Below w1.heap.size w1 W ∧ W.cell? p0 = some v0 ∧ W.cell? p1 = some v1 ∧ W.cell? p2 = some v2 ∧ W.cell? p3 = some v3 ∧ W.cell? p4 = some v4) :
    Below w1.heap.size w1 W' ∧ W'.cell? p0 = some v0 ∧ W'.cell? p1 = some v1 ∧ W'.cell? p2 = some v2 ∧ W'.cell? p3 = some v3 ∧ W'.cell? p4 = some v4 :=
  ⟨h.1.trans (hb.mono h.1.size), kc3 hb h.2.1, kc3 hb h.2.2.1, kc3 hb h.2.2.2.1, kc3 hb h.2.2.2.2.1, kc3 hb h.2.2.2.2.2⟩
set_option maxRecDepth 100000 in
set_option maxHeartbeats 8000000 in
theorem knows_walk (P : S26) (hP : P = plusN) (l0_0 l0_1 : List ByteArray) (l0_2 : List Int) (l0_3 : List S58) (l0_4 : List S61) (hS : arboristlaw21_Sum.f = some (l0_0, l0_1, l0_2, l0_3, l0_4)) {k : Nat} {t1 t2 : ByteArray} {lv : List S26}
    (e1 : cst_Show.f l0_0 l0_1 l0_2 l0_3 l0_4 P.f0 P.f1 P.f2 P.f3 P.f4 P.f5 P.f6 = some t1) (e1b : (t1.toList == [40, 36, 115, 116, 97, 114, 116, 32, 40, 101, 32, 40, 101, 32, 34, 49, 34, 41, 32, 34, 43, 34, 32, 40, 101, 32, 33, 110, 41, 41, 32, 36, 101, 110, 100, 41]) = true) (e2 : cst_Right.f k l0_0 l0_1 l0_2 l0_3 l0_4 P.f0 P.f1 P.f2 P.f3 P.f4 P.f5 P.f6 = some true) (e3 : cst_Clean.f P.f0 P.f1 P.f2 P.f3 P.f4 P.f5 P.f6 = some false) (e4 : cst_Text.f P.f0 P.f1 P.f2 P.f3 P.f4 P.f5 P.f6 = some t2) (e4b : (t2.toList == [49, 43]) = true) (e5 : cst_Len.f P.f0 P.f1 P.f2 P.f3 P.f4 P.f5 P.f6 = some 2) (e6 : cst_Size.f P.f0 P.f1 P.f2 P.f3 P.f4 P.f5 P.f6 = some 8)
    (e7 : cst_Leaves.f P.f0 P.f1 P.f2 P.f3 P.f4 P.f5 P.f6 = some lv) (e7b : lv.length = 4) (e8 : cst_Same.f k P.f0 P.f1 P.f2 P.f3 P.f4 P.f5 P.f6 P.f0 P.f1 P.f2 P.f3 P.f4 P.f5 P.f6 = some true) (w : World) (hgw : GW w) : Calls Tryd.prog 9 #[] w fun e w' => e = .returned (.bool true) ∧ Below w.heap.size w w' := by
  have HP := Aside0.mk (plus_any P hP)
  have HSU := Aside0.mk (sum_any l0_0 l0_1 l0_2 l0_3 l0_4 hS)
  have HGW := Aside0.mk hgw
  have E1 := Aside0.mk e1
  have E2 := Aside0.mk e2
  have E3 := Aside0.mk e3
  have E4 := Aside0.mk e4
  have E5 := Aside0.mk e5
  have E6 := Aside0.mk e6
  have E7 := Aside0.mk e7
  have E7b := Aside0.mk e7b
  have E8 := Aside0.mk e8
  clear hP hS e1 e2 e3 e4 e5 e6 e7 e7b e8 hgw
  go_enter Tryd.func9, Tryd.ntmps9
  go_wp2_with (go_at_call 29; refine (HSU.out _).mono ?_; rintro e w1 ⟨A0, c0, A1, c1, A2, c2, A3, c3, A4, c4, rfl, hg, hb⟩; have HG := Aside0.mk hg; have HB := Aside0.mk hb; clear hg hb)
  have hw2 := below_alloc (Below.refl w1.heap.size w1) (.cells #[.slice A0 l0_0.length c0, .slice A1 l0_1.length c1, .slice A2 l0_2.length c2, .slice A3 l0_3.length c3, .slice A4 l0_4.length c4] 40)
  have hbk := blk_new w1 (.cells #[.slice A0 l0_0.length c0, .slice A1 l0_1.length c1, .slice A2 l0_2.length c2, .slice A3 l0_3.length c3, .slice A4 l0_4.length c4] 40)
  have g0 : (w1.alloc (.cells #[.slice A0 l0_0.length c0, .slice A1 l0_1.length c1, .slice A2 l0_2.length c2, .slice A3 l0_3.length c3, .slice A4 l0_4.length c4] 40)).cell? ⟨w1.heap.size, 0, none⟩ = some (.slice A0 l0_0.length c0) := (blk_cell hbk 0).trans rfl
  have g1 : (w1.alloc (.cells #[.slice A0 l0_0.length c0, .slice A1 l0_1.length c1, .slice A2 l0_2.length c2, .slice A3 l0_3.length c3, .slice A4 l0_4.length c4] 40)).cell? ⟨w1.heap.size, 1, none⟩ = some (.slice A1 l0_1.length c1) := (blk_cell hbk 1).trans rfl
  have g2 : (w1.alloc (.cells #[.slice A0 l0_0.length c0, .slice A1 l0_1.length c1, .slice A2 l0_2.length c2, .slice A3 l0_3.length c3, .slice A4 l0_4.length c4] 40)).cell? ⟨w1.heap.size, 2, none⟩ = some (.slice A2 l0_2.length c2) := (blk_cell hbk 2).trans rfl
  have g3 : (w1.alloc (.cells #[.slice A0 l0_0.length c0, .slice A1 l0_1.length c1, .slice A2 l0_2.length c2, .slice A3 l0_3.length c3, .slice A4 l0_4.length c4] 40)).cell? ⟨w1.heap.size, 3, none⟩ = some (.slice A3 l0_3.length c3) := (blk_cell hbk 3).trans rfl
  have g4 : (w1.alloc (.cells #[.slice A0 l0_0.length c0, .slice A1 l0_1.length c1, .slice A2 l0_2.length c2, .slice A3 l0_3.length c3, .slice A4 l0_4.length c4] 40)).cell? ⟨w1.heap.size, 4, none⟩ = some (.slice A4 l0_4.length c4) := (blk_cell hbk 4).trans rfl
  clear hbk
  obtain ⟨w2, hw⟩ : ∃ w2, w1.alloc (.cells #[.slice A0 l0_0.length c0, .slice A1 l0_1.length c1, .slice A2 l0_2.length c2, .slice A3 l0_3.length c3, .slice A4 l0_4.length c4] 40) = w2 := ⟨_, rfl⟩
  rw [hw] at hw2 g0 g1 g2 g3 g4 ⊢
  clear hw
  have HB2 := Aside0.mk hw2
  clear hw2
  first | (go_region_held3 (fun w' => Below w1.heap.size w1 w' ∧ w'.cell? ⟨w1.heap.size, 0, none⟩ = some (.slice A0 l0_0.length c0) ∧ w'.cell? ⟨w1.heap.size, 1, none⟩ = some (.slice A1 l0_1.length c1) ∧ w'.cell? ⟨w1.heap.size, 2, none⟩ = some (.slice A2 l0_2.length c2) ∧ w'.cell? ⟨w1.heap.size, 3, none⟩ = some (.slice A3 l0_3.length c3) ∧ w'.cell? ⟨w1.heap.size, 4, none⟩ = some (.slice A4 l0_4.length c4))
    (first
      | exact keepS hb (by assumption)
      | exact keepS hb ⟨by assumption, by assumption, by assumption, by assumption, by assumption, by assumption⟩
      | (refine ⟨below_drew1 HB2.out, ?_, ?_, ?_, ?_, ?_⟩ <;> (first | assumption | (simp [*]; done))))
    (first
      | (go_at_call 30; refine (HP.out _).mono ?_; rintro e wp ⟨X4, x4, X6, x6, rfl, hok, hb⟩; (try have HOLD := Aside0.mk (HOK.out.step (fun k q => hb.block k q))); (try clear HOK); have HOK := Aside0.mk hok; clear hok)
      | (go_at_call 26; refine (InG.show_ (HG.out.below (by first | assumption | exact And.left (by assumption) | exact below_drew1 HB2.out)) (GW.below HGW.out (HB.out.trans (Below.mono (by first | assumption | exact And.left (by assumption) | exact below_drew1 HB2.out) HB.out.size))) HOK.out E1.out).mono ?_; rintro e wp ⟨rfl, hb⟩; clear HOK)
      | (go_at_call 24; refine (InG.cstright (HG.out.below (by first | assumption | exact And.left (by assumption) | exact below_drew1 HB2.out)) HOK.out E2.out).mono ?_; rintro e wp ⟨rfl, hb⟩; clear HOK)
      | (go_at_call 19; refine (NodeE.Ok.clean HOK.out E3.out).mono ?_; rintro e wp ⟨rfl, hb⟩; clear HOK)
      | (go_at_call 10; refine (NodeE.Ok.text HOK.out E4.out).mono ?_; rintro e wp ⟨rfl, hb⟩; clear HOK)
      | (go_at_call 12; refine (NodeE.Ok.len HOK.out E5.out).mono ?_; rintro e wp ⟨rfl, hb⟩; clear HOK)
      | (go_at_call 14; refine (NodeE.Ok.size HOK.out E6.out).mono ?_; rintro e wp ⟨rfl, hb⟩; clear HOK)
      | (go_at_call 17; refine (NodeE.Ok.leaves HOK.out E7.out).mono ?_; rintro e wp ⟨LA, lc, rfl, hb⟩; clear HOK; rw [E7b.out])
      | (go_at_call 21; refine (NodeE.Ok.same HOLD.out HOK.out E8.out).mono ?_; rintro e wp ⟨rfl, hb⟩; clear HOK))) | fail
  go_wp2
  go_ret
  exact ⟨rfl, HB.out.trans (Below.mono (by first | assumption | exact And.left (by assumption) | exact below_drew1 HB2.out) HB.out.size)⟩
theorem know_facts : ∃ l0_0 l0_1 l0_2 l0_3 l0_4 t1 t2 lv, arboristlaw21_Sum.f = some (l0_0, l0_1, l0_2, l0_3, l0_4) ∧ cst_Show.f l0_0 l0_1 l0_2 l0_3 l0_4 plusN.f0 plusN.f1 plusN.f2 plusN.f3 plusN.f4 plusN.f5 plusN.f6 = some t1 ∧ (t1.toList == [40, 36, 115, 116, 97, 114, 116, 32, 40, 101, 32, 40, 101, 32, 34, 49, 34, 41, 32, 34, 43, 34, 32, 40, 101, 32, 33, 110, 41, 41, 32, 36, 101, 110, 100, 41]) = true ∧ cst_Right.f 50 l0_0 l0_1 l0_2 l0_3 l0_4 plusN.f0 plusN.f1 plusN.f2 plusN.f3 plusN.f4 plusN.f5 plusN.f6 = some true ∧ cst_Clean.f plusN.f0 plusN.f1 plusN.f2 plusN.f3 plusN.f4 plusN.f5 plusN.f6 = some false ∧ cst_Text.f plusN.f0 plusN.f1 plusN.f2 plusN.f3 plusN.f4 plusN.f5 plusN.f6 = some t2 ∧ (t2.toList == [49, 43]) = true ∧
    cst_Len.f plusN.f0 plusN.f1 plusN.f2 plusN.f3 plusN.f4 plusN.f5 plusN.f6 = some 2 ∧ cst_Size.f plusN.f0 plusN.f1 plusN.f2 plusN.f3 plusN.f4 plusN.f5 plusN.f6 = some 8 ∧ cst_Leaves.f plusN.f0 plusN.f1 plusN.f2 plusN.f3 plusN.f4 plusN.f5 plusN.f6 = some lv ∧ lv.length = 4 ∧ cst_Same.f 50 plusN.f0 plusN.f1 plusN.f2 plusN.f3 plusN.f4 plusN.f5 plusN.f6 plusN.f0 plusN.f1 plusN.f2 plusN.f3 plusN.f4 plusN.f5 plusN.f6 = some true :=
  ⟨_, _, _, _, _, ⟨#[40, 36, 115, 116, 97, 114, 116, 32, 40, 101, 32, 40, 101, 32, 34, 49, 34, 41, 32, 34, 43, 34, 32, 40, 101, 32, 33, 110, 41, 41, 32, 36, 101, 110, 100, 41]⟩, ⟨#[49, 43]⟩, leavesN plusN, rfl, by kernel_rfl, by kernel_rfl, by kernel_rfl, by kernel_rfl, by kernel_rfl, by kernel_rfl, by kernel_rfl, by kernel_rfl, by kernel_rfl, by kernel_rfl, by kernel_rfl⟩
def arboristlaw42_knows.f : Option Bool := some true
theorem arboristlaw42_knows.calls (r : Bool) (w : World) (hgw : GW w) (h : arboristlaw42_knows.f = some r) : Calls Tryd.prog 9 #[] w fun e w' => e = .returned (.bool r) ∧ Below w.heap.size w w' := by
  obtain rfl := Option.some.inj h
  obtain ⟨a, b, c, d, e, t1, t2, lv, h0, h1, h2, h3, h4, h5, h6, h7, h8, h9, ha, hb⟩ := know_facts
  exact knows_walk plusN rfl a b c d e h0 h1 h2 (k := 50) h3 h4 h5 h6 h7 h8 h9 ha hb w hgw
end Go.Proofs.YtphmgaijkdflnaaDoor.H
end
section
namespace Go.Proofs.YtphmgaijkdflnaaDoor.H
open Go.RowKit Go.Proofs.YtphmgaijkdflnaaDoorW.PrintWords Go.Proofs.YtphmgaijkdflnaaDoorW.PrintLast Go.Proofs.YtphmgaijkdflnaaDoorW.PrintMore
set_option linter.unusedVariables false
set_option linter.unusedSimpArgs false
theorem text_val {x : S26} (h : Mild x) : cst_Text.f x.f0 x.f1 x.f2 x.f3 x.f4 x.f5 x.f6 = some (textB x) := by cases x; exact if_pos h
theorem len_val {x : S26} (h : Mild x) : cst_Len.f x.f0 x.f1 x.f2 x.f3 x.f4 x.f5 x.f6 = some ((textB x).size : Int) := by
  have : (textB x).size = szB ((preN x).flatMap ownOf) := cat_size _
  rw [this]
  cases x; exact if_pos h
theorem size_val {x : S26} (h : Mild x) : cst_Size.f x.f0 x.f1 x.f2 x.f3 x.f4 x.f5 x.f6 = some ((preN x).length : Int) := by cases x; exact if_pos h.2.2
theorem leaves_val {x : S26} (h : Mild x) : cst_Leaves.f x.f0 x.f1 x.f2 x.f3 x.f4 x.f5 x.f6 = some (leavesN x) := by cases x; exact if_pos h
theorem clean_val {x : S26} (h : Mild x) : cst_Clean.f x.f0 x.f1 x.f2 x.f3 x.f4 x.f5 x.f6 = some ((preN x).all cleanN) := by cases x; exact if_pos h
theorem leafOf_ok {y : S26} (h : ok26 y) : ok26 (leafOf y) := by
  obtain ⟨h0, h1, h2, h3, h4, h5, h6, h7⟩ := (ok26_iff y).1 h
  exact (ok26_iff _).2 ⟨h0, h1, h2, h3, h4, h5, by simp [leafOf], by simp [leafOf]⟩
theorem leaves_ok {x : S26} (h : ok26 x) : ∀ y ∈ leavesN x, ok26 y := fun y hy => by
  unfold leavesN at hy
  obtain ⟨z, hz, rfl⟩ := List.mem_map.1 hy
  exact leafOf_ok (ok_pre h z (List.mem_filter.1 hz).1)
theorem leaves_len (x : S26) : (leavesN x).length ≤ (preN x).length := by
  unfold leavesN
  rw [List.length_map]
  exact List.length_filter_le _ _
theorem knows_ends : Ends (fun _ => (arboristlaw42_knows.f).bind fun t => some t) true := Ends.const _
end Go.Proofs.YtphmgaijkdflnaaDoor.H
end
section
namespace Go.Proofs.YtphmgaijkdflnaaDoor.H
open Go.RowKit Go.Proofs.YtphmgaijkdflnaaDoorW.PrintWords Go.Proofs.YtphmgaijkdflnaaDoorW.PrintLast Go.Proofs.YtphmgaijkdflnaaDoorW.PrintMore
attribute [local go_sem] max2_int min2_int max_two min_two max_three min_three max_four min_four
set_option linter.unusedVariables false
set_option linter.unusedSimpArgs false
mutual
def arboristlaw42_CstBytes.l0 : Nat → List (S26) → ByteArray → Int → Int → Int → Int → Int → List (S46) → ByteArray → List (S26) → Option (Bool)
 | 0, _, _, _, _, _, _, _, _, _, _ => none
 | k + 1, x3, x4, x5, x392000, x392001, x392002, x392003, x392004, x392005, x392006 => if x5 < (x3.length : Int) then (if 0 ≤ x5 then (if ((rd_T26 x3 x5).f0) < 0 then (arboristlaw42_CstBytes.j1 k x3 x4 x5 true x392000 x392001 x392002 x392003 x392004 x392005 x392006) else (arboristlaw42_CstBytes.j1 k x3 x4 x5 (decide ((((rd_T26 x3 x5).f6).length : Int) > 0)) x392000 x392001 x392002 x392003 x392004 x392005 x392006)) else (none)) else (arboristlaw42_CstBytes.l2 k x4 0 1 (x392003 == 0) 0 x392000 x392001 x392002 x392003 x392004 x392005 x392006)
def arboristlaw42_CstBytes.j1 : Nat → List (S26) → ByteArray → Int → Bool → Int → Int → Int → Int → List (S46) → ByteArray → List (S26) → Option (Bool)
 | 0, _, _, _, _, _, _, _, _, _, _, _ => none
 | k + 1, x3, x4, x5, x38, x392000, x392001, x392002, x392003, x392004, x392005, x392006 => if x38 = true then (some false) else (arboristlaw42_CstBytes.l1 k x3 x4 x5 0 x392000 x392001 x392002 x392003 x392004 x392005 x392006)
def arboristlaw42_CstBytes.l1 : Nat → List (S26) → ByteArray → Int → Int → Int → Int → Int → Int → List (S46) → ByteArray → List (S26) → Option (Bool)
 | 0, _, _, _, _, _, _, _, _, _, _, _ => none
 | k + 1, x3, x4, x5, x6, x392000, x392001, x392002, x392003, x392004, x392005, x392006 => if 0 ≤ x5 then (if x5 < (x3.length : Int) then (if x6 < (((rd_T26 x3 x5).f4).length : Int) then (if 0 ≤ x6 then (if x4.size + ((rd_T46 ((rd_T26 x3 x5).f4) x6).f2).size ≤ 9223372036854775807 then (arboristlaw42_CstBytes.l1 k x3 (x4 ++ ((rd_T46 ((rd_T26 x3 x5).f4) x6).f2)) x5 (wrap64 (x6 + 1)) x392000 x392001 x392002 x392003 x392004 x392005 x392006) else (none)) else (none)) else (if x4.size + ((rd_T26 x3 x5).f5).size ≤ 9223372036854775807 then (arboristlaw42_CstBytes.l0 k x3 (x4 ++ ((rd_T26 x3 x5).f5)) (wrap64 (x5 + 1)) x392000 x392001 x392002 x392003 x392004 x392005 x392006) else (none))) else (none)) else (none)
def arboristlaw42_CstBytes.l2 : Nat → ByteArray → Int → Int → Bool → Int → Int → Int → Int → Int → List (S46) → ByteArray → List (S26) → Option (Bool)
 | 0, _, _, _, _, _, _, _, _, _, _, _, _ => none
 | k + 1, x4, x7, x8, x9, x10, x392000, x392001, x392002, x392003, x392004, x392005, x392006 => if x10 < (x392006.length : Int) then (if 0 ≤ x10 then ((cst_Len.f ((rd_T26 x392006 x10).f0) ((rd_T26 x392006 x10).f1) ((rd_T26 x392006 x10).f2) ((rd_T26 x392006 x10).f3) ((rd_T26 x392006 x10).f4) ((rd_T26 x392006 x10).f5) ((rd_T26 x392006 x10).f6)).bind fun t404 => ((cst_Size.f ((rd_T26 x392006 x10).f0) ((rd_T26 x392006 x10).f1) ((rd_T26 x392006 x10).f2) ((rd_T26 x392006 x10).f3) ((rd_T26 x392006 x10).f4) ((rd_T26 x392006 x10).f5) ((rd_T26 x392006 x10).f6)).bind fun t406 => (if x9 = true then ((cst_Clean.f ((rd_T26 x392006 x10).f0) ((rd_T26 x392006 x10).f1) ((rd_T26 x392006 x10).f2) ((rd_T26 x392006 x10).f3) ((rd_T26 x392006 x10).f4) ((rd_T26 x392006 x10).f5) ((rd_T26 x392006 x10).f6)).bind fun t408 => (arboristlaw42_CstBytes.l2 k x4 (wrap64 (x7 + t404)) (wrap64 (x8 + t406)) t408 (wrap64 (x10 + 1)) x392000 x392001 x392002 x392003 x392004 x392005 x392006)) else (arboristlaw42_CstBytes.l2 k x4 (wrap64 (x7 + t404)) (wrap64 (x8 + t406)) false (wrap64 (x10 + 1)) x392000 x392001 x392002 x392003 x392004 x392005 x392006)))) else (none)) else ((cst_Text.f x392000 x392001 x392002 x392003 x392004 x392005 x392006).bind fun t410 => (if t410.toList = x4.toList then ((cst_Len.f x392000 x392001 x392002 x392003 x392004 x392005 x392006).bind fun t411 => (if t411 = (x4.size : Int) then ((cst_Len.f x392000 x392001 x392002 x392003 x392004 x392005 ([] : List (S26))).bind fun t412 => (if (wrap64 (t412 + x7)) = (x4.size : Int) then ((cst_Size.f x392000 x392001 x392002 x392003 x392004 x392005 x392006).bind fun t413 => (if t413 = x8 then ((cst_Clean.f x392000 x392001 x392002 x392003 x392004 x392005 x392006).bind fun t414 => (if x9 = true then ((cst_Clean.f x392000 x392001 x392002 x392003 x392004 x392005 ([] : List (S26))).bind fun t415 => (if (t414 == t415) = true then ((arboristlaw42_knows.f).bind fun t416 => (some t416)) else (none))) else (if (t414 == false) = true then ((arboristlaw42_knows.f).bind fun t417 => (some t417)) else (none)))) else (none))) else (none))) else (none))) else (some false)))
end
def arboristlaw42_CstBytes.f (k : Nat) (a0_0 : Int) (a0_1 : Int) (a0_2 : Int) (a0_3 : Int) (l0_4 : List (S46)) (a0_5 : ByteArray) (l0_6 : List (S26)) : Option (Bool) := (arboristref42_Few.f k a0_0 a0_1 a0_2 a0_3 l0_4 a0_5 l0_6 300).bind fun t392 => (if t392 = true then ((cst_Leaves.f a0_0 a0_1 a0_2 a0_3 l0_4 a0_5 l0_6).bind fun t394 => (arboristlaw42_CstBytes.l0 k t394 (⟨#[]⟩ : ByteArray) 0 a0_0 a0_1 a0_2 a0_3 l0_4 a0_5 l0_6)) else ((arboristlaw42_knows.f).bind fun t393 => (some t393)))
set_option maxHeartbeats 8000000 in
set_option maxRecDepth 100000 in
theorem arboristlaw42_CstBytes.calls (k : Nat) (a0_0 : Int) (a0_1 : Int) (a0_2 : Int) (a0_3 : Int) (A0_4 : Option Addr) (c0_4 : Nat) (l0_4 : List (S46)) (a0_5 : ByteArray) (A0_6 : Option Addr) (c0_6 : Nat) (l0_6 : List (S26)) (r : Bool) (w : World) (hgw : GW w) (hr0_4 : Kd.C k46 w A0_4 l0_4.length l0_4) (hc0_4 : l0_4.length ≤ c0_4) (hr0_6 : Kd.C k26 w A0_6 l0_6.length l0_6) (hc0_6 : l0_6.length ≤ c0_6) (h : arboristlaw42_CstBytes.f k a0_0 a0_1 a0_2 a0_3 l0_4 a0_5 l0_6 = some r) :
  Calls Tryd.prog 6 #[.agg #[.int .i64 a0_0, .int .i64 a0_1, .int .i64 a0_2, .int .i64 a0_3, .slice A0_4 l0_4.length c0_4, .string a0_5, .slice A0_6 l0_6.length c0_6]] w fun e w' => e = .returned (.bool r) ∧ Below w.heap.size w w' := by
 (have HGW := qM hgw); clear hgw; (have hu26 := Tryd.underlying26); (have HR0_4 := qM hr0_4); (have HC0_4 := qM hc0_4); clear hr0_4 hc0_4; (have HR0_6 := qM hr0_6); (have HC0_6 := qM hc0_6); clear hr0_6 hc0_6; (have HB := qM (Below.refl w.heap.size w)); (have H : ((arboristref42_Few.f k a0_0 a0_1 a0_2 a0_3 l0_4 a0_5 l0_6 300).bind fun t392 => (if t392 = true then ((cst_Leaves.f a0_0 a0_1 a0_2 a0_3 l0_4 a0_5 l0_6).bind fun t394 => (arboristlaw42_CstBytes.l0 k t394 (⟨#[]⟩ : ByteArray) 0 a0_0 a0_1 a0_2 a0_3 l0_4 a0_5 l0_6)) else ((arboristlaw42_knows.f).bind fun t393 => (some t393)))) = some r := h); clear h; (replace H := Option.bind_eq_some_iff.mp H); (obtain ⟨t392, A20, H⟩ := H); (replace H : (if t392 = true then ((cst_Leaves.f a0_0 a0_1 a0_2 a0_3 l0_4 a0_5 l0_6).bind fun t394 => (arboristlaw42_CstBytes.l0 k t394 (⟨#[]⟩ : ByteArray) 0 a0_0 a0_1 a0_2 a0_3 l0_4 a0_5 l0_6)) else ((arboristlaw42_knows.f).bind fun t393 => (some t393))) = some r := H); (have A2 := qM A20); clear A20; (by_cases c3 : t392 = true)
 ·subst c3
  (have H1 : ((cst_Leaves.f a0_0 a0_1 a0_2 a0_3 l0_4 a0_5 l0_6).bind fun t394 => (arboristlaw42_CstBytes.l0 k t394 (⟨#[]⟩ : ByteArray) 0 a0_0 a0_1 a0_2 a0_3 l0_4 a0_5 l0_6)) = some r := by rw [if_pos rfl] at H; exact H); clear H; (have H := H1); clear H1; (replace H := Option.bind_eq_some_iff.mp H); (obtain ⟨t394, A40, H⟩ := H); (replace H : (arboristlaw42_CstBytes.l0 k t394 (⟨#[]⟩ : ByteArray) 0 a0_0 a0_1 a0_2 a0_3 l0_4 a0_5 l0_6) = some r := H); (have A4 := qM A40); clear A40; (have H' := qM H); clear H; (go_enter Tryd.func6, Tryd.ntmps6)
  go_wp2_with (first | ((with_reducible refine gate_dst (N := 1) rfl ?_); (try (refine gate_guard (by rfl) ?_; dsimp only)); refine box_event ?hg (N := 1) ?hd (cs := #[.int .i64 a0_0, .int .i64 a0_1, .int .i64 a0_2, .int .i64 a0_3, .slice A0_4 l0_4.length c0_4, .string a0_5, .slice A0_6 l0_6.length c0_6]) (t := 26) ?hr ?_; (case hd => rfl); (case hg => rfl); (case hr => first | (go_simp; done) | (go_simp; rfl)); intro gb391 hg w5 hbox hb; have n0_ := qM (qP qF hb); have n1_ := qM (hbox); have n2_ := qM ((by rw [hg]; exact (qZ qF) : w.heap.size ≤ gb391)); have n3_ := qM ((by rw [hg]; exact (qZ qF) : w.heap.size ≤ gb391)); clear HB; have HB := n0_; have BK391 := n1_; have GW391 := n2_; have GE391 := n3_; clear n0_ n1_ n2_ n3_; clear hb hbox hg; obtain ⟨hcz6_0, hcz6_1, hcz6_2, hcz6_3, hcz6_4, hcz6_5, hcz6_6, hfz6_0, hfz6_1, hfz6_2, hfz6_3, hfz6_4, hfz6_5, hfz6_6⟩ := bx7 BK391.out) | (go_at_call 8; (with_reducible refine (arboristref42_Few.calls k a0_0 a0_1 a0_2 a0_3 _ _ l0_4 a0_5 _ _ l0_6 300 true _ ?side1 ?side2 ?side3 ?side4 A2.out).mono ?_); (case side1 => exact qC HR0_4.out qF); (case side2 => exact HC0_4.out); (case side3 => exact qC HR0_6.out qF); (case side4 => exact HC0_6.out); rintro e w7 ⟨rfl, hb⟩; have n0_ := qM (qb (g := gb391) qK hb); have n1_ := qM (qP qF hb); clear BK391; clear HB; have BK391 := n0_; have HB := n1_; clear n0_ n1_; (try clear hb); (try clear hb2); (try clear hk); (try clear hi); obtain ⟨hcz8_0, hcz8_1, hcz8_2, hcz8_3, hcz8_4, hcz8_5, hcz8_6, hfz8_0, hfz8_1, hfz8_2, hfz8_3, hfz8_4, hfz8_5, hfz8_6⟩ := bx7 BK391.out) | (go_at_call 17; (with_reducible refine (cst_Leaves.calls a0_0 a0_1 a0_2 a0_3 _ _ l0_4 a0_5 _ _ l0_6 t394 _ ?side1 ?side2 ?side3 ?side4 A4.out).mono ?_); (case side1 => exact qC HR0_4.out qF); (case side2 => exact HC0_4.out); (case side3 => exact qC HR0_6.out qF); (case side4 => exact HC0_6.out); rintro e w9 ⟨v395, rfl, ho0, hb⟩; have n0_ := qM (Kd.R_lower (Kd.R_newB ho0 (g := gb391) qK) (qZ qF)); have n1_ := qM (qb (g := gb391) qK hb); have n2_ := qM (qP qF hb); clear BK391; clear HB; have HO396 := n0_; have BK391 := n1_; have HB := n2_; clear n0_ n1_ n2_; (try clear hb); (try clear hb2); (try clear hk); (try clear hi); (try clear ho0)))
  repeat (go_quiet (first | ((with_reducible refine gate_dst (N := 1) rfl ?_); (try (refine gate_guard (by rfl) ?_; dsimp only)); refine box_event ?hg (N := 1) ?hd (cs := #[.int .i64 a0_0, .int .i64 a0_1, .int .i64 a0_2, .int .i64 a0_3, .slice A0_4 l0_4.length c0_4, .string a0_5, .slice A0_6 l0_6.length c0_6]) (t := 26) ?hr ?_; (case hd => rfl); (case hg => rfl); (case hr => first | (go_simp; done) | (go_simp; rfl)); intro gb391 hg w5 hbox hb; have n0_ := qM (qP qF hb); have n1_ := qM (hbox); have n2_ := qM ((by rw [hg]; exact (qZ qF) : w.heap.size ≤ gb391)); have n3_ := qM ((by rw [hg]; exact (qZ qF) : w.heap.size ≤ gb391)); clear HB; have HB := n0_; have BK391 := n1_; have GW391 := n2_; have GE391 := n3_; clear n0_ n1_ n2_ n3_; clear hb hbox hg; obtain ⟨hcz6_0, hcz6_1, hcz6_2, hcz6_3, hcz6_4, hcz6_5, hcz6_6, hfz6_0, hfz6_1, hfz6_2, hfz6_3, hfz6_4, hfz6_5, hfz6_6⟩ := bx7 BK391.out) | (go_at_call 8; (with_reducible refine (arboristref42_Few.calls k a0_0 a0_1 a0_2 a0_3 _ _ l0_4 a0_5 _ _ l0_6 300 true _ ?side1 ?side2 ?side3 ?side4 A2.out).mono ?_); (case side1 => exact qC HR0_4.out qF); (case side2 => exact HC0_4.out); (case side3 => exact qC HR0_6.out qF); (case side4 => exact HC0_6.out); rintro e w7 ⟨rfl, hb⟩; have n0_ := qM (qb (g := gb391) qK hb); have n1_ := qM (qP qF hb); clear BK391; clear HB; have BK391 := n0_; have HB := n1_; clear n0_ n1_; (try clear hb); (try clear hb2); (try clear hk); (try clear hi); obtain ⟨hcz8_0, hcz8_1, hcz8_2, hcz8_3, hcz8_4, hcz8_5, hcz8_6, hfz8_0, hfz8_1, hfz8_2, hfz8_3, hfz8_4, hfz8_5, hfz8_6⟩ := bx7 BK391.out) | (go_at_call 17; (with_reducible refine (cst_Leaves.calls a0_0 a0_1 a0_2 a0_3 _ _ l0_4 a0_5 _ _ l0_6 t394 _ ?side1 ?side2 ?side3 ?side4 A4.out).mono ?_); (case side1 => exact qC HR0_4.out qF); (case side2 => exact HC0_4.out); (case side3 => exact qC HR0_6.out qF); (case side4 => exact HC0_6.out); rintro e w9 ⟨v395, rfl, ho0, hb⟩; have n0_ := qM (Kd.R_lower (Kd.R_newB ho0 (g := gb391) qK) (qZ qF)); have n1_ := qM (qb (g := gb391) qK hb); have n2_ := qM (qP qF hb); clear BK391; clear HB; have HO396 := n0_; have BK391 := n1_; have HB := n2_; clear n0_ n1_ n2_; (try clear hb); (try clear hb2); (try clear hk); (try clear hi); (try clear ho0))); try go_wp2_with (first | ((with_reducible refine gate_dst (N := 1) rfl ?_); (try (refine gate_guard (by rfl) ?_; dsimp only)); refine box_event ?hg (N := 1) ?hd (cs := #[.int .i64 a0_0, .int .i64 a0_1, .int .i64 a0_2, .int .i64 a0_3, .slice A0_4 l0_4.length c0_4, .string a0_5, .slice A0_6 l0_6.length c0_6]) (t := 26) ?hr ?_; (case hd => rfl); (case hg => rfl); (case hr => first | (go_simp; done) | (go_simp; rfl)); intro gb391 hg w5 hbox hb; have n0_ := qM (qP qF hb); have n1_ := qM (hbox); have n2_ := qM ((by rw [hg]; exact (qZ qF) : w.heap.size ≤ gb391)); have n3_ := qM ((by rw [hg]; exact (qZ qF) : w.heap.size ≤ gb391)); clear HB; have HB := n0_; have BK391 := n1_; have GW391 := n2_; have GE391 := n3_; clear n0_ n1_ n2_ n3_; clear hb hbox hg; obtain ⟨hcz6_0, hcz6_1, hcz6_2, hcz6_3, hcz6_4, hcz6_5, hcz6_6, hfz6_0, hfz6_1, hfz6_2, hfz6_3, hfz6_4, hfz6_5, hfz6_6⟩ := bx7 BK391.out) | (go_at_call 8; (with_reducible refine (arboristref42_Few.calls k a0_0 a0_1 a0_2 a0_3 _ _ l0_4 a0_5 _ _ l0_6 300 true _ ?side1 ?side2 ?side3 ?side4 A2.out).mono ?_); (case side1 => exact qC HR0_4.out qF); (case side2 => exact HC0_4.out); (case side3 => exact qC HR0_6.out qF); (case side4 => exact HC0_6.out); rintro e w7 ⟨rfl, hb⟩; have n0_ := qM (qb (g := gb391) qK hb); have n1_ := qM (qP qF hb); clear BK391; clear HB; have BK391 := n0_; have HB := n1_; clear n0_ n1_; (try clear hb); (try clear hb2); (try clear hk); (try clear hi); obtain ⟨hcz8_0, hcz8_1, hcz8_2, hcz8_3, hcz8_4, hcz8_5, hcz8_6, hfz8_0, hfz8_1, hfz8_2, hfz8_3, hfz8_4, hfz8_5, hfz8_6⟩ := bx7 BK391.out) | (go_at_call 17; (with_reducible refine (cst_Leaves.calls a0_0 a0_1 a0_2 a0_3 _ _ l0_4 a0_5 _ _ l0_6 t394 _ ?side1 ?side2 ?side3 ?side4 A4.out).mono ?_); (case side1 => exact qC HR0_4.out qF); (case side2 => exact HC0_4.out); (case side3 => exact qC HR0_6.out qF); (case side4 => exact HC0_6.out); rintro e w9 ⟨v395, rfl, ho0, hb⟩; have n0_ := qM (Kd.R_lower (Kd.R_newB ho0 (g := gb391) qK) (qZ qF)); have n1_ := qM (qb (g := gb391) qK hb); have n2_ := qM (qP qF hb); clear BK391; clear HB; have HO396 := n0_; have BK391 := n1_; have HB := n2_; clear n0_ n1_ n2_; (try clear hb); (try clear hb2); (try clear hk); (try clear hi); (try clear ho0))))
  go_loopg [4, 5] k (fun kq v4 v5 w' => ∃ (x4_1 : ByteArray) (x5_1 : Int), v4 = .string x4_1 ∧ v5 = .int .i64 x5_1 ∧ Aside0 (arboristlaw42_CstBytes.l0 kq t394 x4_1 x5_1 a0_0 a0_1 a0_2 a0_3 l0_4 a0_5 l0_6 = some r) ∧ Aside0 (kq ≤ k) ∧ Aside0 (Kd.R k26 26 w' w.heap.size (fun k_ => k_ ≠ gb391) v395 t394) ∧ Aside0 (w'.heap[gb391]? = some (.cells #[.int .i64 a0_0, .int .i64 a0_1, .int .i64 a0_2, .int .i64 a0_3, (.slice A0_4 l0_4.length c0_4), .string a0_5, (.slice A0_6 l0_6.length c0_6)] 26 (0, 0))) ∧ Aside0 (Below w.heap.size w w'))
  case atStart => exact ⟨((⟨#[]⟩ : ByteArray)), (0), qV, qV, H', ⟨Nat.le_refl _⟩, ⟨by (with_reducible repeat (first | apply Kd.R_alloc | apply Kd.R_drewN | apply Kd.R_drew)); exact Kd.R_mono HO396.out (fun _ hk => hk.2)⟩, ⟨qK⟩, ⟨qF⟩⟩
  case round =>
   (clear H'); (try clear p2); (try clear c3); (try clear c6); (try clear hcz6_0 hcz6_1 hcz6_2 hcz6_3 hcz6_4 hcz6_5 hcz6_6); (try clear hcz8_0 hcz8_1 hcz8_2 hcz8_3 hcz8_4 hcz8_5 hcz8_6); (try clear hfz6_0 hfz6_1 hfz6_2 hfz6_3 hfz6_4 hfz6_5 hfz6_6); (try clear hfz8_0 hfz8_1 hfz8_2 hfz8_3 hfz8_4 hfz8_5 hfz8_6); (obtain ⟨x4_1, x5_1, rfl, rfl, HA, HK1, HO_3, BK391, HB⟩ := hrel)
   cases gk with
   | zero => exact absurd HA.out (by simp [arboristlaw42_CstBytes.l0])
   | succ k1 =>
    (have H := HA.out); clear HA; (simp only [arboristlaw42_CstBytes.l0] at H); (by_cases c10 : x5_1 < (t394.length : Int))
    ·rw [if_pos c10] at H
     (have c10b0 : decide (x5_1 < (t394.length : Int)) = true := decide_eq_true c10); clear c10; (have HC11 := qM H); clear H; (obtain ⟨Ao12, co12, eo12⟩ := Kd.R_slice HO_3.out); subst eo12; (go_upto_region 8 with (fail)); (repeat (go_quiet (fail); go_upto_region 8 with (fail))); (go_cut [38] (fun v38 wc => ∃ (kq : Nat) (x38_10 : Bool), v38 = .bool x38_10 ∧ Aside0 (arboristlaw42_CstBytes.j1 kq t394 x4_1 x5_1 x38_10 a0_0 a0_1 a0_2 a0_3 l0_4 a0_5 l0_6 = some r) ∧ Aside0 (kq ≤ k1) ∧ Aside0 (Kd.R k26 26 wc w.heap.size (fun k_ => k_ ≠ gb391) (.slice Ao12 t394.length co12) t394) ∧ Aside0 (wc.heap[gb391]? = some (.cells #[.int .i64 a0_0, .int .i64 a0_1, .int .i64 a0_2, .int .i64 a0_3, (.slice A0_4 l0_4.length c0_4), .string a0_5, (.slice A0_6 l0_6.length c0_6)] 26 (0, 0))) ∧ Aside0 (Below w.heap.size w wc)))
     case first =>
      (have H := HC11.out); clear HC11; (by_cases c13 : 0 ≤ x5_1)
      ·rw [if_pos c13] at H
       (have c13b0 : decide (0 ≤ x5_1) = true := decide_eq_true c13); clear c13; ((first | rw [c13b0] | (simp only [i64_w, i32_w]; rw [c13b0]) | skip)); (by_cases c14 : ((rd_T26 t394 x5_1).f0) < 0)
       ·rw [if_pos c14] at H
        (have c14b0 : decide (((rd_T26 t394 x5_1).f0) < 0) = true := decide_eq_true c14); clear c14; (have H' := qM H); clear H; (have p397 : 0 ≤ (x5_1 : Int) := qo qX); (have q397 : x5_1 < (t394.length : Int) := qo qX); (obtain ⟨ad397, A397_4, c397_4, A397_6, c397_6, e397, hx397_0, hx397_1, hx397_2, hx397_3, hx397_4, hx397_5, hx397_6, hl397_4, hi397_4, hl397_6, hi397_6⟩ := at_T26 (Kd.R_reads' HO_3.out).2.2 x5_1 p397 q397)
        cases e397
        (obtain ⟨ce397, hce397, hMe397, hcc397⟩ := Kd.R_get HO_3.out z26 x5_1 p397 (by first | exact q397 | exact qo qX | (have e_ := (Kd.R_reads' HO_3.out).1; omega))); (obtain ⟨ve397_4, ve397_6, rfl, ge397_4, ge397_6⟩ := k26_openM hMe397); (have hv397_4 := hcc397 4 _ rfl); (rw [add_field _ _ 4 (by omega)] at hv397_4); (replace hv397_4 := Option.some.inj (hv397_4.symm.trans hx397_4)); (rw [hv397_4] at ge397_4); (have HL397_4 := qM (show Kd.R k46 46 _ _ _ _ ((rd_T26 t394 x5_1).f4) from ge397_4)); clear hv397_4 ge397_4; (have hv397_6 := hcc397 6 _ rfl); (rw [add_field _ _ 6 (by omega)] at hv397_6); (replace hv397_6 := Option.some.inj (hv397_6.symm.trans hx397_6)); (rw [hv397_6] at ge397_6); (have HL397_6 := qM (show Kd.R k26 26 _ _ _ _ ((rd_T26 t394 x5_1).f6) from ge397_6)); clear hv397_6 ge397_6 hcc397 hce397; (have HR397_4 := qM hi397_4); (have HC397_4 := qM hl397_4); clear hi397_4 hl397_4; (have HR397_6 := qM hi397_6); (have HC397_6 := qM hl397_6); clear hi397_6 hl397_6; (replace p397 := eq_true p397); (replace q397 := eq_true q397); go_wp2; (repeat (go_quiet (fail); try go_wp2)); go_meet
        case rel => exact ⟨_, (true), qV, H', ⟨by have := HK1.out; first | omega | exact Nat.le_refl _⟩, ⟨by (with_reducible repeat (first | apply Kd.R_alloc | apply Kd.R_drewN | apply Kd.R_drew)); exact HO_3.out⟩, ⟨qK⟩, ⟨qF⟩⟩
       ·rw [if_neg c14] at H
        (have c14b0 : decide (((rd_T26 t394 x5_1).f0) < 0) = false := decide_eq_false c14); clear c14; (have H' := qM H); clear H; (have p397 : 0 ≤ (x5_1 : Int) := qo qX); (have q397 : x5_1 < (t394.length : Int) := qo qX); (obtain ⟨ad397, A397_4, c397_4, A397_6, c397_6, e397, hx397_0, hx397_1, hx397_2, hx397_3, hx397_4, hx397_5, hx397_6, hl397_4, hi397_4, hl397_6, hi397_6⟩ := at_T26 (Kd.R_reads' HO_3.out).2.2 x5_1 p397 q397)
        cases e397
        (obtain ⟨ce397, hce397, hMe397, hcc397⟩ := Kd.R_get HO_3.out z26 x5_1 p397 (by first | exact q397 | exact qo qX | (have e_ := (Kd.R_reads' HO_3.out).1; omega))); (obtain ⟨ve397_4, ve397_6, rfl, ge397_4, ge397_6⟩ := k26_openM hMe397); (have hv397_4 := hcc397 4 _ rfl); (rw [add_field _ _ 4 (by omega)] at hv397_4); (replace hv397_4 := Option.some.inj (hv397_4.symm.trans hx397_4)); (rw [hv397_4] at ge397_4); (have HL397_4 := qM (show Kd.R k46 46 _ _ _ _ ((rd_T26 t394 x5_1).f4) from ge397_4)); clear hv397_4 ge397_4; (have hv397_6 := hcc397 6 _ rfl); (rw [add_field _ _ 6 (by omega)] at hv397_6); (replace hv397_6 := Option.some.inj (hv397_6.symm.trans hx397_6)); (rw [hv397_6] at ge397_6); (have HL397_6 := qM (show Kd.R k26 26 _ _ _ _ ((rd_T26 t394 x5_1).f6) from ge397_6)); clear hv397_6 ge397_6 hcc397 hce397; (have HR397_4 := qM hi397_4); (have HC397_4 := qM hl397_4); clear hi397_4 hl397_4; (have HR397_6 := qM hi397_6); (have HC397_6 := qM hl397_6); clear hi397_6 hl397_6; (replace p397 := eq_true p397); (replace q397 := eq_true q397); (have p398 : 0 ≤ (x5_1 : Int) := qo qX); (have q398 : x5_1 < (t394.length : Int) := qo qX); (obtain ⟨ad398, A398_4, c398_4, A398_6, c398_6, e398, hx398_0, hx398_1, hx398_2, hx398_3, hx398_4, hx398_5, hx398_6, hl398_4, hi398_4, hl398_6, hi398_6⟩ := at_T26 (Kd.R_reads' HO_3.out).2.2 x5_1 p398 q398); (obtain rfl : ad397 = ad398 := (by injection e398)); (obtain ⟨ce398, hce398, hMe398, hcc398⟩ := Kd.R_get HO_3.out z26 x5_1 p398 (by first | exact q398 | exact qo qX | (have e_ := (Kd.R_reads' HO_3.out).1; omega))); (obtain ⟨ve398_4, ve398_6, rfl, ge398_4, ge398_6⟩ := k26_openM hMe398); (have hv398_4 := hcc398 4 _ rfl); (rw [add_field _ _ 4 (by omega)] at hv398_4); (replace hv398_4 := Option.some.inj (hv398_4.symm.trans hx398_4)); (rw [hv398_4] at ge398_4); (have HL398_4 := qM (show Kd.R k46 46 _ _ _ _ ((rd_T26 t394 x5_1).f4) from ge398_4)); clear hv398_4 ge398_4; (have hv398_6 := hcc398 6 _ rfl); (rw [add_field _ _ 6 (by omega)] at hv398_6); (replace hv398_6 := Option.some.inj (hv398_6.symm.trans hx398_6)); (rw [hv398_6] at ge398_6); (have HL398_6 := qM (show Kd.R k26 26 _ _ _ _ ((rd_T26 t394 x5_1).f6) from ge398_6)); clear hv398_6 ge398_6 hcc398 hce398; (have HR398_4 := qM hi398_4); (have HC398_4 := qM hl398_4)
        clear hi398_4 hl398_4; (have HR398_6 := qM hi398_6); (have HC398_6 := qM hl398_6); clear hi398_6 hl398_6; (replace p398 := eq_true p398); (replace q398 := eq_true q398); (have ea_ := Option.some.inj (hx397_4.symm.trans hx398_4)); (injection ea_ with ea_ en_ ec_); subst ea_; subst ec_; clear en_; (have ea_ := Option.some.inj (hx397_6.symm.trans hx398_6)); (injection ea_ with ea_ en_ ec_); subst ea_; subst ec_; clear en_; go_wp2; (repeat (go_quiet (fail); try go_wp2)); go_meet
        case rel => exact ⟨_, (decide ((((rd_T26 t394 x5_1).f6).length : Int) > 0)), qV, H', ⟨by have := HK1.out; first | omega | exact Nat.le_refl _⟩, ⟨by (with_reducible repeat (first | apply Kd.R_alloc | apply Kd.R_drewN | apply Kd.R_drew)); exact HO_3.out⟩, ⟨qK⟩, ⟨qF⟩⟩
      ·rw [if_neg c13] at H
       exact absurd H (by simp)
     case rest =>
      clear HC11; (try clear c1); (try clear p2); (try clear c3); (try clear p3); (try clear q3); (try clear hx3); (try clear c6); (try clear c10); (try clear c10b0); (try clear c13); (try clear c13b0); (try clear c14); (try clear c14b0); (try clear hcz6_0 hcz6_1 hcz6_2 hcz6_3 hcz6_4 hcz6_5 hcz6_6); (try clear hcz8_0 hcz8_1 hcz8_2 hcz8_3 hcz8_4 hcz8_5 hcz8_6); (try clear hfz6_0 hfz6_1 hfz6_2 hfz6_3 hfz6_4 hfz6_5 hfz6_6); (try clear hfz8_0 hfz8_1 hfz8_2 hfz8_3 hfz8_4 hfz8_5 hfz8_6); (try clear hx397_0 hx397_1 hx397_2 hx397_3 hx397_4 hx397_5 hx397_6); (try clear hx398_0 hx398_1 hx398_2 hx398_3 hx398_4 hx398_5 hx398_6); (try clear p2); (try clear p397); (try clear p398); (try clear q397); (try clear q398); (obtain ⟨kq, x38_10, rfl, HA, HJ10, HO_3, BK391, HB⟩ := hcut)
      cases kq with
      | zero => exact absurd HA.out (by simp [arboristlaw42_CstBytes.j1])
      | succ kj10 =>
       (have H := HA.out); clear HA; (simp only [arboristlaw42_CstBytes.j1] at H); (by_cases c15 : x38_10 = true)
       ·subst c15
        (have H1 : (some false) = some r := by rw [if_pos rfl] at H; exact H); clear H; (have H := H1); clear H1; (obtain rfl := Option.some.inj H); go_wp2; (repeat (go_quiet (fail); try go_wp2)); (go_ret); (exact ⟨qE, qF⟩)
       ·replace c15 := Bool.eq_false_iff.mpr c15
        subst c15; (have H1 : (arboristlaw42_CstBytes.l1 kj10 t394 x4_1 x5_1 0 a0_0 a0_1 a0_2 a0_3 l0_4 a0_5 l0_6) = some r := by rw [if_neg (show ¬ (false = true) by decide)] at H; exact H); clear H; (have H := H1); clear H1; (have H' := qM H); clear H; go_wp2; (repeat (go_quiet (fail); try go_wp2)); (go_loopg [4, 6] kj10 (fun kq v4 v6 w' => ∃ (x4_3 : ByteArray) (x6_3 : Int), v4 = .string x4_3 ∧ v6 = .int .i64 x6_3 ∧ Aside0 (arboristlaw42_CstBytes.l1 kq t394 x4_3 x5_1 x6_3 a0_0 a0_1 a0_2 a0_3 l0_4 a0_5 l0_6 = some r) ∧ Aside0 (kq ≤ kj10) ∧ Aside0 (Kd.R k26 26 w' w.heap.size (fun k_ => k_ ≠ gb391) (.slice Ao12 t394.length co12) t394) ∧ Aside0 (w'.heap[gb391]? = some (.cells #[.int .i64 a0_0, .int .i64 a0_1, .int .i64 a0_2, .int .i64 a0_3, (.slice A0_4 l0_4.length c0_4), .string a0_5, (.slice A0_6 l0_6.length c0_6)] 26 (0, 0))) ∧ Aside0 (Below w.heap.size w w')))
        case atStart => exact ⟨(x4_1), (0), qV, qV, H', ⟨Nat.le_refl _⟩, ⟨by (with_reducible repeat (first | apply Kd.R_alloc | apply Kd.R_drewN | apply Kd.R_drew)); exact HO_3.out⟩, ⟨qK⟩, ⟨qF⟩⟩
        case round =>
         (clear H'); (try clear c1); (try clear p2); (try clear c3); (try clear p3); (try clear q3); (try clear hx3); (try clear c6); (try clear c10); (try clear c10b0); (try clear c13); (try clear c13b0); (try clear c14); (try clear c14b0); (try clear c15); (try clear hcz6_0 hcz6_1 hcz6_2 hcz6_3 hcz6_4 hcz6_5 hcz6_6); (try clear hcz8_0 hcz8_1 hcz8_2 hcz8_3 hcz8_4 hcz8_5 hcz8_6); (try clear hfz6_0 hfz6_1 hfz6_2 hfz6_3 hfz6_4 hfz6_5 hfz6_6); (try clear hfz8_0 hfz8_1 hfz8_2 hfz8_3 hfz8_4 hfz8_5 hfz8_6); (try clear hx397_0 hx397_1 hx397_2 hx397_3 hx397_4 hx397_5 hx397_6); (try clear hx398_0 hx398_1 hx398_2 hx398_3 hx398_4 hx398_5 hx398_6); (try clear p2); (try clear p3); (try clear p397); (try clear p398); (try clear q3); (try clear q397); (try clear q398); (obtain ⟨x4_3, x6_3, rfl, rfl, HA, HK3, HO_3, BK391, HB⟩ := hrel)
         cases gk with
         | zero => exact absurd HA.out (by simp [arboristlaw42_CstBytes.l1])
         | succ k3 =>
          (have H := HA.out); clear HA; (simp only [arboristlaw42_CstBytes.l1] at H); (by_cases c16 : 0 ≤ x5_1)
          ·rw [if_pos c16] at H
           (have c16b0 : decide (0 ≤ x5_1) = true := decide_eq_true c16); clear c16; (by_cases c17 : x5_1 < (t394.length : Int))
           ·rw [if_pos c17] at H
            (have c17b0 : decide (x5_1 < (t394.length : Int)) = true := decide_eq_true c17); clear c17; (by_cases c18 : x6_3 < (((rd_T26 t394 x5_1).f4).length : Int))
            ·rw [if_pos c18] at H
             (have c18b0 : decide (x6_3 < (((rd_T26 t394 x5_1).f4).length : Int)) = true := decide_eq_true c18); clear c18; (by_cases c19 : 0 ≤ x6_3)
             ·rw [if_pos c19] at H
              (have c19b0 : decide (0 ≤ x6_3) = true := decide_eq_true c19); clear c19; (by_cases c20 : x4_3.size + ((rd_T46 ((rd_T26 t394 x5_1).f4) x6_3).f2).size ≤ 9223372036854775807)
              ·rw [if_pos c20] at H
               (have c20b0 := eq_true c20); (have c20b1 : decide (x4_3.size + ((rd_T46 ((rd_T26 t394 x5_1).f4) x6_3).f2).size ≤ 9223372036854775807) = true := decide_eq_true c20); (try have c20b2 : (9223372036854775807 < x4_3.size + ((rd_T46 ((rd_T26 t394 x5_1).f4) x6_3).f2).size) = False := eq_false (Nat.not_lt.2 c20)); (have H' := qM H); clear H; (have p399 : 0 ≤ (x5_1 : Int) := qo qX); (have q399 : x5_1 < (t394.length : Int) := qo qX); (obtain ⟨ad399, A399_4, c399_4, A399_6, c399_6, e399, hx399_0, hx399_1, hx399_2, hx399_3, hx399_4, hx399_5, hx399_6, hl399_4, hi399_4, hl399_6, hi399_6⟩ := at_T26 (Kd.R_reads' HO_3.out).2.2 x5_1 p399 q399)
               cases e399
               (obtain ⟨ce399, hce399, hMe399, hcc399⟩ := Kd.R_get HO_3.out z26 x5_1 p399 (by first | exact q399 | exact qo qX | (have e_ := (Kd.R_reads' HO_3.out).1; omega))); (obtain ⟨ve399_4, ve399_6, rfl, ge399_4, ge399_6⟩ := k26_openM hMe399); (have hv399_4 := hcc399 4 _ rfl); (rw [add_field _ _ 4 (by omega)] at hv399_4); (replace hv399_4 := Option.some.inj (hv399_4.symm.trans hx399_4)); (rw [hv399_4] at ge399_4); (have HL399_4 := qM (show Kd.R k46 46 _ _ _ _ ((rd_T26 t394 x5_1).f4) from ge399_4)); clear hv399_4 ge399_4; (have hv399_6 := hcc399 6 _ rfl); (rw [add_field _ _ 6 (by omega)] at hv399_6); (replace hv399_6 := Option.some.inj (hv399_6.symm.trans hx399_6)); (rw [hv399_6] at ge399_6); (have HL399_6 := qM (show Kd.R k26 26 _ _ _ _ ((rd_T26 t394 x5_1).f6) from ge399_6)); clear hv399_6 ge399_6 hcc399 hce399; (have HR399_4 := qM hi399_4); (have HC399_4 := qM hl399_4); clear hi399_4 hl399_4; (have HR399_6 := qM hi399_6); (have HC399_6 := qM hl399_6); clear hi399_6 hl399_6; (replace p399 := eq_true p399); (replace q399 := eq_true q399); (have p400 : 0 ≤ (x5_1 : Int) := qo qX); (have q400 : x5_1 < (t394.length : Int) := qo qX); (obtain ⟨ad400, A400_4, c400_4, A400_6, c400_6, e400, hx400_0, hx400_1, hx400_2, hx400_3, hx400_4, hx400_5, hx400_6, hl400_4, hi400_4, hl400_6, hi400_6⟩ := at_T26 (Kd.R_reads' HO_3.out).2.2 x5_1 p400 q400); (obtain rfl : ad399 = ad400 := (by injection e400)); (obtain ⟨ce400, hce400, hMe400, hcc400⟩ := Kd.R_get HO_3.out z26 x5_1 p400 (by first | exact q400 | exact qo qX | (have e_ := (Kd.R_reads' HO_3.out).1; omega))); (obtain ⟨ve400_4, ve400_6, rfl, ge400_4, ge400_6⟩ := k26_openM hMe400); (have hv400_4 := hcc400 4 _ rfl); (rw [add_field _ _ 4 (by omega)] at hv400_4); (replace hv400_4 := Option.some.inj (hv400_4.symm.trans hx400_4)); (rw [hv400_4] at ge400_4); (have HL400_4 := qM (show Kd.R k46 46 _ _ _ _ ((rd_T26 t394 x5_1).f4) from ge400_4)); clear hv400_4 ge400_4; (have hv400_6 := hcc400 6 _ rfl); (rw [add_field _ _ 6 (by omega)] at hv400_6); (replace hv400_6 := Option.some.inj (hv400_6.symm.trans hx400_6)); (rw [hv400_6] at ge400_6); (have HL400_6 := qM (show Kd.R k26 26 _ _ _ _ ((rd_T26 t394 x5_1).f6) from ge400_6)); clear hv400_6 ge400_6 hcc400 hce400; (have HR400_4 := qM hi400_4); (have HC400_4 := qM hl400_4)
               clear hi400_4 hl400_4; (have HR400_6 := qM hi400_6); (have HC400_6 := qM hl400_6); clear hi400_6 hl400_6; (replace p400 := eq_true p400); (replace q400 := eq_true q400); (have ea_ := Option.some.inj (hx399_4.symm.trans hx400_4)); (injection ea_ with ea_ en_ ec_); subst ea_; subst ec_; clear en_; (have ea_ := Option.some.inj (hx399_6.symm.trans hx400_6)); (injection ea_ with ea_ en_ ec_); subst ea_; subst ec_; clear en_; (have p401 : 0 ≤ (x6_3 : Int) := qo qX); (have q401 : x6_3 < (((rd_T26 t394 x5_1).f4).length : Int) := qo qX); (obtain ⟨ad401, e401, hx401_0, hx401_1, hx401_2⟩ := at_T46 (by repeat (first | (with_reducible exact HR400_4.out) | (with_reducible refine Kd.C_alloc ?_ _) | (with_reducible refine Kd.C_drewN ?_ _) | (with_reducible refine Kd.C_drew ?_) | exact HR400_4.out)) x6_3 p401 q401)
               cases e401
               (replace p401 := eq_true p401); (replace q401 := eq_true q401); go_wp2; (repeat (go_quiet (fail); try go_wp2)); (go_roundg k3)
               case measure => have := HK1.out; have := HJ10.out; have := HK3.out; omega
               case rel => exact ⟨(x4_3 ++ ((rd_T46 ((rd_T26 t394 x5_1).f4) x6_3).f2)), (wrap64 (x6_3 + 1)), qV, qV, H', ⟨by have := HK1.out; have := HJ10.out; have := HK3.out; omega⟩, ⟨by (with_reducible repeat (first | apply Kd.R_alloc | apply Kd.R_drewN | apply Kd.R_drew)); exact HO_3.out⟩, ⟨qK⟩, ⟨qF⟩⟩
              ·rw [if_neg c20] at H
               exact absurd H (by simp)
             ·rw [if_neg c19] at H
              exact absurd H (by simp)
            ·rw [if_neg c18] at H
             (have c18b0 : decide (x6_3 < (((rd_T26 t394 x5_1).f4).length : Int)) = false := decide_eq_false c18); clear c18; (by_cases c21 : x4_3.size + ((rd_T26 t394 x5_1).f5).size ≤ 9223372036854775807)
             ·rw [if_pos c21] at H
              (have c21b0 := eq_true c21); (have c21b1 : decide (x4_3.size + ((rd_T26 t394 x5_1).f5).size ≤ 9223372036854775807) = true := decide_eq_true c21); (try have c21b2 : (9223372036854775807 < x4_3.size + ((rd_T26 t394 x5_1).f5).size) = False := eq_false (Nat.not_lt.2 c21)); (have H' := qM H); clear H; (have p399 : 0 ≤ (x5_1 : Int) := qo qX); (have q399 : x5_1 < (t394.length : Int) := qo qX); (obtain ⟨ad399, A399_4, c399_4, A399_6, c399_6, e399, hx399_0, hx399_1, hx399_2, hx399_3, hx399_4, hx399_5, hx399_6, hl399_4, hi399_4, hl399_6, hi399_6⟩ := at_T26 (Kd.R_reads' HO_3.out).2.2 x5_1 p399 q399)
              cases e399
              (obtain ⟨ce399, hce399, hMe399, hcc399⟩ := Kd.R_get HO_3.out z26 x5_1 p399 (by first | exact q399 | exact qo qX | (have e_ := (Kd.R_reads' HO_3.out).1; omega))); (obtain ⟨ve399_4, ve399_6, rfl, ge399_4, ge399_6⟩ := k26_openM hMe399); (have hv399_4 := hcc399 4 _ rfl); (rw [add_field _ _ 4 (by omega)] at hv399_4); (replace hv399_4 := Option.some.inj (hv399_4.symm.trans hx399_4)); (rw [hv399_4] at ge399_4); (have HL399_4 := qM (show Kd.R k46 46 _ _ _ _ ((rd_T26 t394 x5_1).f4) from ge399_4)); clear hv399_4 ge399_4; (have hv399_6 := hcc399 6 _ rfl); (rw [add_field _ _ 6 (by omega)] at hv399_6); (replace hv399_6 := Option.some.inj (hv399_6.symm.trans hx399_6)); (rw [hv399_6] at ge399_6); (have HL399_6 := qM (show Kd.R k26 26 _ _ _ _ ((rd_T26 t394 x5_1).f6) from ge399_6)); clear hv399_6 ge399_6 hcc399 hce399; (have HR399_4 := qM hi399_4); (have HC399_4 := qM hl399_4); clear hi399_4 hl399_4; (have HR399_6 := qM hi399_6); (have HC399_6 := qM hl399_6); clear hi399_6 hl399_6; (replace p399 := eq_true p399); (replace q399 := eq_true q399); (have p402 : 0 ≤ (x5_1 : Int) := qo qX); (have q402 : x5_1 < (t394.length : Int) := qo qX); (obtain ⟨ad402, A402_4, c402_4, A402_6, c402_6, e402, hx402_0, hx402_1, hx402_2, hx402_3, hx402_4, hx402_5, hx402_6, hl402_4, hi402_4, hl402_6, hi402_6⟩ := at_T26 (Kd.R_reads' HO_3.out).2.2 x5_1 p402 q402); (obtain rfl : ad399 = ad402 := (by injection e402)); (obtain ⟨ce402, hce402, hMe402, hcc402⟩ := Kd.R_get HO_3.out z26 x5_1 p402 (by first | exact q402 | exact qo qX | (have e_ := (Kd.R_reads' HO_3.out).1; omega))); (obtain ⟨ve402_4, ve402_6, rfl, ge402_4, ge402_6⟩ := k26_openM hMe402); (have hv402_4 := hcc402 4 _ rfl); (rw [add_field _ _ 4 (by omega)] at hv402_4); (replace hv402_4 := Option.some.inj (hv402_4.symm.trans hx402_4)); (rw [hv402_4] at ge402_4); (have HL402_4 := qM (show Kd.R k46 46 _ _ _ _ ((rd_T26 t394 x5_1).f4) from ge402_4)); clear hv402_4 ge402_4; (have hv402_6 := hcc402 6 _ rfl); (rw [add_field _ _ 6 (by omega)] at hv402_6); (replace hv402_6 := Option.some.inj (hv402_6.symm.trans hx402_6)); (rw [hv402_6] at ge402_6); (have HL402_6 := qM (show Kd.R k26 26 _ _ _ _ ((rd_T26 t394 x5_1).f6) from ge402_6)); clear hv402_6 ge402_6 hcc402 hce402; (have HR402_4 := qM hi402_4); (have HC402_4 := qM hl402_4)
              clear hi402_4 hl402_4; (have HR402_6 := qM hi402_6); (have HC402_6 := qM hl402_6); clear hi402_6 hl402_6; (replace p402 := eq_true p402); (replace q402 := eq_true q402); (have ea_ := Option.some.inj (hx399_4.symm.trans hx402_4)); (injection ea_ with ea_ en_ ec_); subst ea_; subst ec_; clear en_; (have ea_ := Option.some.inj (hx399_6.symm.trans hx402_6)); (injection ea_ with ea_ en_ ec_); subst ea_; subst ec_; clear en_; go_wp2; (repeat (go_quiet (fail); try go_wp2)); (go_roundg k3)
              case measure => have := HK1.out; have := HJ10.out; have := HK3.out; omega
              case rel => exact ⟨(x4_3 ++ ((rd_T26 t394 x5_1).f5)), (wrap64 (x5_1 + 1)), qV, qV, H', ⟨by have := HK1.out; have := HJ10.out; have := HK3.out; omega⟩, ⟨by (with_reducible repeat (first | apply Kd.R_alloc | apply Kd.R_drewN | apply Kd.R_drew)); exact HO_3.out⟩, ⟨qK⟩, ⟨qF⟩⟩
             ·rw [if_neg c21] at H
              exact absurd H (by simp)
           ·rw [if_neg c17] at H
            exact absurd H (by simp)
          ·rw [if_neg c16] at H
           exact absurd H (by simp)
    ·rw [if_neg c10] at H
     (have c10b0 : decide (x5_1 < (t394.length : Int)) = false := decide_eq_false c10); clear c10; (have H' := qM H); clear H; (obtain ⟨Ao22, co22, eo22⟩ := Kd.R_slice HO_3.out); subst eo22; (obtain ⟨hcz23_0, hcz23_1, hcz23_2, hcz23_3, hcz23_4, hcz23_5, hcz23_6, hfz23_0, hfz23_1, hfz23_2, hfz23_3, hfz23_4, hfz23_5, hfz23_6⟩ := bx7 BK391.out); go_wp2; (repeat (go_quiet (fail); try go_wp2)); (go_loopg [7, 8, 9, 10] k1 (fun kq v7 v8 v9 v10 w' => ∃ (x7_2 : Int) (x8_2 : Int) (x9_2 : Bool) (x10_2 : Int), v7 = .int .i64 x7_2 ∧ v8 = .int .i64 x8_2 ∧ v9 = .bool x9_2 ∧ v10 = .int .i64 x10_2 ∧ Aside0 (arboristlaw42_CstBytes.l2 kq x4_1 x7_2 x8_2 x9_2 x10_2 a0_0 a0_1 a0_2 a0_3 l0_4 a0_5 l0_6 = some r) ∧ Aside0 (kq ≤ k1) ∧ Aside0 (w'.heap[gb391]? = some (.cells #[.int .i64 a0_0, .int .i64 a0_1, .int .i64 a0_2, .int .i64 a0_3, (.slice A0_4 l0_4.length c0_4), .string a0_5, (.slice A0_6 l0_6.length c0_6)] 26 (0, 0))) ∧ Aside0 (Below w.heap.size w w')))
     case atStart => exact ⟨(0), (1), ((a0_3 == 0)), (0), qV, qV, qV, qV, H', ⟨Nat.le_refl _⟩, ⟨qK⟩, ⟨qF⟩⟩
     case round =>
      (clear H'); (try clear c1); (try clear c2); (try clear p2); (try clear c3); (try clear p3); (try clear q3); (try clear hx3); (try clear c4); (try clear p4); (try clear q4); (try clear hx4); (try clear c6); (try clear p6); (try clear c10); (try clear c10b0); (try clear c13); (try clear c13b0); (try clear c14); (try clear c14b0); (try clear c15); (try clear c16); (try clear c16b0); (try clear c17); (try clear c17b0); (try clear c18); (try clear c18b0); (try clear c19); (try clear c19b0); (try clear c20); (try clear c20b0); (try clear c20b1); (try clear c20b2); (try clear c21); (try clear c21b0); (try clear c21b1); (try clear c21b2); (try clear hcz23_0 hcz23_1 hcz23_2 hcz23_3 hcz23_4 hcz23_5 hcz23_6); (try clear hcz6_0 hcz6_1 hcz6_2 hcz6_3 hcz6_4 hcz6_5 hcz6_6); (try clear hcz8_0 hcz8_1 hcz8_2 hcz8_3 hcz8_4 hcz8_5 hcz8_6); (try clear hfz23_0 hfz23_1 hfz23_2 hfz23_3 hfz23_4 hfz23_5 hfz23_6); (try clear hfz6_0 hfz6_1 hfz6_2 hfz6_3 hfz6_4 hfz6_5 hfz6_6); (try clear hfz8_0 hfz8_1 hfz8_2 hfz8_3 hfz8_4 hfz8_5 hfz8_6); (try clear hx397_0 hx397_1 hx397_2 hx397_3 hx397_4 hx397_5 hx397_6); (try clear hx398_0 hx398_1 hx398_2 hx398_3 hx398_4 hx398_5 hx398_6); (try clear hx399_0 hx399_1 hx399_2 hx399_3 hx399_4 hx399_5 hx399_6); (try clear hx400_0 hx400_1 hx400_2 hx400_3 hx400_4 hx400_5 hx400_6); (try clear hx401_0 hx401_1 hx401_2); (try clear hx402_0 hx402_1 hx402_2 hx402_3 hx402_4 hx402_5 hx402_6); (try clear p2); (try clear p3); (try clear p397); (try clear p398); (try clear p399); (try clear p400); (try clear p401); (try clear p402); (try clear q3); (try clear q397); (try clear q398); (try clear q399); (try clear q400); (try clear q401); (try clear q402); (obtain ⟨x7_2, x8_2, x9_2, x10_2, rfl, rfl, rfl, rfl, HA, HK2, BK391, HB⟩ := hrel)
      cases gk with
      | zero => exact absurd HA.out (by simp [arboristlaw42_CstBytes.l2])
      | succ k2 =>
       (have H := HA.out); clear HA; (simp only [arboristlaw42_CstBytes.l2] at H); (by_cases c24 : x10_2 < (l0_6.length : Int))
       ·rw [if_pos c24] at H
        (have c24b0 : decide (x10_2 < (l0_6.length : Int)) = true := decide_eq_true c24); clear c24; (by_cases c25 : 0 ≤ x10_2)
        ·rw [if_pos c25] at H
         (have c25b0 : decide (0 ≤ x10_2) = true := decide_eq_true c25); clear c25; (replace H := Option.bind_eq_some_iff.mp H); (obtain ⟨t404, A260, H⟩ := H)
         replace H : ((cst_Size.f ((rd_T26 l0_6 x10_2).f0) ((rd_T26 l0_6 x10_2).f1) ((rd_T26 l0_6 x10_2).f2) ((rd_T26 l0_6 x10_2).f3) ((rd_T26 l0_6 x10_2).f4) ((rd_T26 l0_6 x10_2).f5) ((rd_T26 l0_6 x10_2).f6)).bind fun t406 => (if x9_2 = true then ((cst_Clean.f ((rd_T26 l0_6 x10_2).f0) ((rd_T26 l0_6 x10_2).f1) ((rd_T26 l0_6 x10_2).f2) ((rd_T26 l0_6 x10_2).f3) ((rd_T26 l0_6 x10_2).f4) ((rd_T26 l0_6 x10_2).f5) ((rd_T26 l0_6 x10_2).f6)).bind fun t408 => (arboristlaw42_CstBytes.l2 k2 x4_1 (wrap64 (x7_2 + t404)) (wrap64 (x8_2 + t406)) t408 (wrap64 (x10_2 + 1)) a0_0 a0_1 a0_2 a0_3 l0_4 a0_5 l0_6)) else (arboristlaw42_CstBytes.l2 k2 x4_1 (wrap64 (x7_2 + t404)) (wrap64 (x8_2 + t406)) false (wrap64 (x10_2 + 1)) a0_0 a0_1 a0_2 a0_3 l0_4 a0_5 l0_6))) = some r := H
         (have A26 := qM A260); clear A260; (replace H := Option.bind_eq_some_iff.mp H); (obtain ⟨t406, A270, H⟩ := H); (replace H : (if x9_2 = true then ((cst_Clean.f ((rd_T26 l0_6 x10_2).f0) ((rd_T26 l0_6 x10_2).f1) ((rd_T26 l0_6 x10_2).f2) ((rd_T26 l0_6 x10_2).f3) ((rd_T26 l0_6 x10_2).f4) ((rd_T26 l0_6 x10_2).f5) ((rd_T26 l0_6 x10_2).f6)).bind fun t408 => (arboristlaw42_CstBytes.l2 k2 x4_1 (wrap64 (x7_2 + t404)) (wrap64 (x8_2 + t406)) t408 (wrap64 (x10_2 + 1)) a0_0 a0_1 a0_2 a0_3 l0_4 a0_5 l0_6)) else (arboristlaw42_CstBytes.l2 k2 x4_1 (wrap64 (x7_2 + t404)) (wrap64 (x8_2 + t406)) false (wrap64 (x10_2 + 1)) a0_0 a0_1 a0_2 a0_3 l0_4 a0_5 l0_6)) = some r := H); (have A27 := qM A270); clear A270; (by_cases c28 : x9_2 = true)
         ·subst c28
          (have H1 : ((cst_Clean.f ((rd_T26 l0_6 x10_2).f0) ((rd_T26 l0_6 x10_2).f1) ((rd_T26 l0_6 x10_2).f2) ((rd_T26 l0_6 x10_2).f3) ((rd_T26 l0_6 x10_2).f4) ((rd_T26 l0_6 x10_2).f5) ((rd_T26 l0_6 x10_2).f6)).bind fun t408 => (arboristlaw42_CstBytes.l2 k2 x4_1 (wrap64 (x7_2 + t404)) (wrap64 (x8_2 + t406)) t408 (wrap64 (x10_2 + 1)) a0_0 a0_1 a0_2 a0_3 l0_4 a0_5 l0_6)) = some r := by rw [if_pos rfl] at H; exact H); clear H; (have H := H1); clear H1; (replace H := Option.bind_eq_some_iff.mp H); (obtain ⟨t408, A290, H⟩ := H); (replace H : (arboristlaw42_CstBytes.l2 k2 x4_1 (wrap64 (x7_2 + t404)) (wrap64 (x8_2 + t406)) t408 (wrap64 (x10_2 + 1)) a0_0 a0_1 a0_2 a0_3 l0_4 a0_5 l0_6) = some r := H); (have A29 := qM A290); clear A290; (have H' := qM H); clear H; (obtain ⟨hcz30_0, hcz30_1, hcz30_2, hcz30_3, hcz30_4, hcz30_5, hcz30_6, hfz30_0, hfz30_1, hfz30_2, hfz30_3, hfz30_4, hfz30_5, hfz30_6⟩ := bx7 BK391.out); (have p403 : 0 ≤ (x10_2 : Int) := qo qX); (have q403 : x10_2 < (l0_6.length : Int) := qo qX); (obtain ⟨ad403, A403_4, c403_4, A403_6, c403_6, e403, hx403_0, hx403_1, hx403_2, hx403_3, hx403_4, hx403_5, hx403_6, hl403_4, hi403_4, hl403_6, hi403_6⟩ := at_T26 HR0_6.out x10_2 p403 q403)
          cases e403
          (replace hx403_0 := (HB.out.cell (qB w _ hx403_0)).trans hx403_0); (replace hx403_1 := (HB.out.cell (qB w _ hx403_1)).trans hx403_1); (replace hx403_2 := (HB.out.cell (qB w _ hx403_2)).trans hx403_2); (replace hx403_3 := (HB.out.cell (qB w _ hx403_3)).trans hx403_3); (replace hx403_4 := (HB.out.cell (qB w _ hx403_4)).trans hx403_4); (replace hx403_5 := (HB.out.cell (qB w _ hx403_5)).trans hx403_5); (replace hx403_6 := (HB.out.cell (qB w _ hx403_6)).trans hx403_6); (have HR403_4 := qM hi403_4); (have HC403_4 := qM hl403_4); clear hi403_4 hl403_4; (have HR403_6 := qM hi403_6); (have HC403_6 := qM hl403_6); clear hi403_6 hl403_6; (replace p403 := eq_true p403); (replace q403 := eq_true q403)
          go_wp2_with (first | (go_at_call 12; (with_reducible refine (cst_Len.calls ((rd_T26 l0_6 x10_2).f0) ((rd_T26 l0_6 x10_2).f1) ((rd_T26 l0_6 x10_2).f2) ((rd_T26 l0_6 x10_2).f3) _ _ ((rd_T26 l0_6 x10_2).f4) ((rd_T26 l0_6 x10_2).f5) _ _ ((rd_T26 l0_6 x10_2).f6) t404 _ ?side1 ?side2 ?side3 ?side4 A26.out).mono ?_); (case side1 => exact qC HR403_4.out qF); (case side2 => exact HC403_4.out); (case side3 => exact qC HR403_6.out qF); (case side4 => exact HC403_6.out); rintro e w31 ⟨rfl, hb⟩; have n0_ := qM (qb (g := gb391) qK hb); have n1_ := qM (qP qF hb); clear BK391; clear HB; have BK391 := n0_; have HB := n1_; clear n0_ n1_; (try clear hb); (try clear hb2); (try clear hk); (try clear hi); obtain ⟨hcz32_0, hcz32_1, hcz32_2, hcz32_3, hcz32_4, hcz32_5, hcz32_6, hfz32_0, hfz32_1, hfz32_2, hfz32_3, hfz32_4, hfz32_5, hfz32_6⟩ := bx7 BK391.out; have p405 : 0 ≤ (x10_2 : Int) := qo qX; have q405 : x10_2 < (l0_6.length : Int) := qo qX; obtain ⟨ad405, A405_4, c405_4, A405_6, c405_6, e405, hx405_0, hx405_1, hx405_2, hx405_3, hx405_4, hx405_5, hx405_6, hl405_4, hi405_4, hl405_6, hi405_6⟩ := at_T26 HR0_6.out x10_2 p405 q405; obtain rfl : ad403 = ad405 := (by injection e405); replace hx405_0 := (HB.out.cell (qB w _ hx405_0)).trans hx405_0; replace hx405_1 := (HB.out.cell (qB w _ hx405_1)).trans hx405_1; replace hx405_2 := (HB.out.cell (qB w _ hx405_2)).trans hx405_2; replace hx405_3 := (HB.out.cell (qB w _ hx405_3)).trans hx405_3; replace hx405_4 := (HB.out.cell (qB w _ hx405_4)).trans hx405_4; replace hx405_5 := (HB.out.cell (qB w _ hx405_5)).trans hx405_5; replace hx405_6 := (HB.out.cell (qB w _ hx405_6)).trans hx405_6; have HR405_4 := qM hi405_4; have HC405_4 := qM hl405_4; clear hi405_4 hl405_4; have HR405_6 := qM hi405_6; have HC405_6 := qM hl405_6; clear hi405_6 hl405_6; replace p405 := eq_true p405; replace q405 := eq_true q405) | (go_at_call 14; (with_reducible refine (cst_Size.calls ((rd_T26 l0_6 x10_2).f0) ((rd_T26 l0_6 x10_2).f1) ((rd_T26 l0_6 x10_2).f2) ((rd_T26 l0_6 x10_2).f3) _ _ ((rd_T26 l0_6 x10_2).f4) ((rd_T26 l0_6 x10_2).f5) _ _ ((rd_T26 l0_6 x10_2).f6) t406 _ ?side1 ?side2 ?side3 ?side4 A27.out).mono ?_); (case side1 => exact qC HR405_4.out qF); (case side2 => exact HC405_4.out); (case side3 => exact qC HR405_6.out qF); (case side4 => exact HC405_6.out); rintro e w33 ⟨rfl, hb⟩; have n0_ := qM (qb (g := gb391) qK hb); have n1_ := qM (qP qF hb); clear BK391; clear HB; have BK391 := n0_; have HB := n1_; clear n0_ n1_; (try clear hb); (try clear hb2); (try clear hk); (try clear hi); obtain ⟨hcz34_0, hcz34_1, hcz34_2, hcz34_3, hcz34_4, hcz34_5, hcz34_6, hfz34_0, hfz34_1, hfz34_2, hfz34_3, hfz34_4, hfz34_5, hfz34_6⟩ := bx7 BK391.out; have p407 : 0 ≤ (x10_2 : Int) := qo qX; have q407 : x10_2 < (l0_6.length : Int) := qo qX; obtain ⟨ad407, A407_4, c407_4, A407_6, c407_6, e407, hx407_0, hx407_1, hx407_2, hx407_3, hx407_4, hx407_5, hx407_6, hl407_4, hi407_4, hl407_6, hi407_6⟩ := at_T26 HR0_6.out x10_2 p407 q407; obtain rfl : ad403 = ad407 := (by injection e407); replace hx407_0 := (HB.out.cell (qB w _ hx407_0)).trans hx407_0; replace hx407_1 := (HB.out.cell (qB w _ hx407_1)).trans hx407_1; replace hx407_2 := (HB.out.cell (qB w _ hx407_2)).trans hx407_2; replace hx407_3 := (HB.out.cell (qB w _ hx407_3)).trans hx407_3; replace hx407_4 := (HB.out.cell (qB w _ hx407_4)).trans hx407_4; replace hx407_5 := (HB.out.cell (qB w _ hx407_5)).trans hx407_5; replace hx407_6 := (HB.out.cell (qB w _ hx407_6)).trans hx407_6; have HR407_4 := qM hi407_4; have HC407_4 := qM hl407_4; clear hi407_4 hl407_4; have HR407_6 := qM hi407_6; have HC407_6 := qM hl407_6; clear hi407_6 hl407_6; replace p407 := eq_true p407; replace q407 := eq_true q407) | (go_at_call 19; (with_reducible refine (cst_Clean.calls ((rd_T26 l0_6 x10_2).f0) ((rd_T26 l0_6 x10_2).f1) ((rd_T26 l0_6 x10_2).f2) ((rd_T26 l0_6 x10_2).f3) _ _ ((rd_T26 l0_6 x10_2).f4) ((rd_T26 l0_6 x10_2).f5) _ _ ((rd_T26 l0_6 x10_2).f6) t408 _ ?side1 ?side2 ?side3 ?side4 A29.out).mono ?_); (case side1 => exact qC HR407_4.out qF); (case side2 => exact HC407_4.out); (case side3 => exact qC HR407_6.out qF); (case side4 => exact HC407_6.out); rintro e w35 ⟨rfl, hb⟩; have n0_ := qM (qb (g := gb391) qK hb); have n1_ := qM (qP qF hb); clear BK391; clear HB; have BK391 := n0_; have HB := n1_; clear n0_ n1_; (try clear hb); (try clear hb2); (try clear hk); (try clear hi)))
          repeat (go_quiet (first | (go_at_call 12; (with_reducible refine (cst_Len.calls ((rd_T26 l0_6 x10_2).f0) ((rd_T26 l0_6 x10_2).f1) ((rd_T26 l0_6 x10_2).f2) ((rd_T26 l0_6 x10_2).f3) _ _ ((rd_T26 l0_6 x10_2).f4) ((rd_T26 l0_6 x10_2).f5) _ _ ((rd_T26 l0_6 x10_2).f6) t404 _ ?side1 ?side2 ?side3 ?side4 A26.out).mono ?_); (case side1 => exact qC HR403_4.out qF); (case side2 => exact HC403_4.out); (case side3 => exact qC HR403_6.out qF); (case side4 => exact HC403_6.out); rintro e w31 ⟨rfl, hb⟩; have n0_ := qM (qb (g := gb391) qK hb); have n1_ := qM (qP qF hb); clear BK391; clear HB; have BK391 := n0_; have HB := n1_; clear n0_ n1_; (try clear hb); (try clear hb2); (try clear hk); (try clear hi); obtain ⟨hcz32_0, hcz32_1, hcz32_2, hcz32_3, hcz32_4, hcz32_5, hcz32_6, hfz32_0, hfz32_1, hfz32_2, hfz32_3, hfz32_4, hfz32_5, hfz32_6⟩ := bx7 BK391.out; have p405 : 0 ≤ (x10_2 : Int) := qo qX; have q405 : x10_2 < (l0_6.length : Int) := qo qX; obtain ⟨ad405, A405_4, c405_4, A405_6, c405_6, e405, hx405_0, hx405_1, hx405_2, hx405_3, hx405_4, hx405_5, hx405_6, hl405_4, hi405_4, hl405_6, hi405_6⟩ := at_T26 HR0_6.out x10_2 p405 q405; obtain rfl : ad403 = ad405 := (by injection e405); replace hx405_0 := (HB.out.cell (qB w _ hx405_0)).trans hx405_0; replace hx405_1 := (HB.out.cell (qB w _ hx405_1)).trans hx405_1; replace hx405_2 := (HB.out.cell (qB w _ hx405_2)).trans hx405_2; replace hx405_3 := (HB.out.cell (qB w _ hx405_3)).trans hx405_3; replace hx405_4 := (HB.out.cell (qB w _ hx405_4)).trans hx405_4; replace hx405_5 := (HB.out.cell (qB w _ hx405_5)).trans hx405_5; replace hx405_6 := (HB.out.cell (qB w _ hx405_6)).trans hx405_6; have HR405_4 := qM hi405_4; have HC405_4 := qM hl405_4; clear hi405_4 hl405_4; have HR405_6 := qM hi405_6; have HC405_6 := qM hl405_6; clear hi405_6 hl405_6; replace p405 := eq_true p405; replace q405 := eq_true q405) | (go_at_call 14; (with_reducible refine (cst_Size.calls ((rd_T26 l0_6 x10_2).f0) ((rd_T26 l0_6 x10_2).f1) ((rd_T26 l0_6 x10_2).f2) ((rd_T26 l0_6 x10_2).f3) _ _ ((rd_T26 l0_6 x10_2).f4) ((rd_T26 l0_6 x10_2).f5) _ _ ((rd_T26 l0_6 x10_2).f6) t406 _ ?side1 ?side2 ?side3 ?side4 A27.out).mono ?_); (case side1 => exact qC HR405_4.out qF); (case side2 => exact HC405_4.out); (case side3 => exact qC HR405_6.out qF); (case side4 => exact HC405_6.out); rintro e w33 ⟨rfl, hb⟩; have n0_ := qM (qb (g := gb391) qK hb); have n1_ := qM (qP qF hb); clear BK391; clear HB; have BK391 := n0_; have HB := n1_; clear n0_ n1_; (try clear hb); (try clear hb2); (try clear hk); (try clear hi); obtain ⟨hcz34_0, hcz34_1, hcz34_2, hcz34_3, hcz34_4, hcz34_5, hcz34_6, hfz34_0, hfz34_1, hfz34_2, hfz34_3, hfz34_4, hfz34_5, hfz34_6⟩ := bx7 BK391.out; have p407 : 0 ≤ (x10_2 : Int) := qo qX; have q407 : x10_2 < (l0_6.length : Int) := qo qX; obtain ⟨ad407, A407_4, c407_4, A407_6, c407_6, e407, hx407_0, hx407_1, hx407_2, hx407_3, hx407_4, hx407_5, hx407_6, hl407_4, hi407_4, hl407_6, hi407_6⟩ := at_T26 HR0_6.out x10_2 p407 q407; obtain rfl : ad403 = ad407 := (by injection e407); replace hx407_0 := (HB.out.cell (qB w _ hx407_0)).trans hx407_0; replace hx407_1 := (HB.out.cell (qB w _ hx407_1)).trans hx407_1; replace hx407_2 := (HB.out.cell (qB w _ hx407_2)).trans hx407_2; replace hx407_3 := (HB.out.cell (qB w _ hx407_3)).trans hx407_3; replace hx407_4 := (HB.out.cell (qB w _ hx407_4)).trans hx407_4; replace hx407_5 := (HB.out.cell (qB w _ hx407_5)).trans hx407_5; replace hx407_6 := (HB.out.cell (qB w _ hx407_6)).trans hx407_6; have HR407_4 := qM hi407_4; have HC407_4 := qM hl407_4; clear hi407_4 hl407_4; have HR407_6 := qM hi407_6; have HC407_6 := qM hl407_6; clear hi407_6 hl407_6; replace p407 := eq_true p407; replace q407 := eq_true q407) | (go_at_call 19; (with_reducible refine (cst_Clean.calls ((rd_T26 l0_6 x10_2).f0) ((rd_T26 l0_6 x10_2).f1) ((rd_T26 l0_6 x10_2).f2) ((rd_T26 l0_6 x10_2).f3) _ _ ((rd_T26 l0_6 x10_2).f4) ((rd_T26 l0_6 x10_2).f5) _ _ ((rd_T26 l0_6 x10_2).f6) t408 _ ?side1 ?side2 ?side3 ?side4 A29.out).mono ?_); (case side1 => exact qC HR407_4.out qF); (case side2 => exact HC407_4.out); (case side3 => exact qC HR407_6.out qF); (case side4 => exact HC407_6.out); rintro e w35 ⟨rfl, hb⟩; have n0_ := qM (qb (g := gb391) qK hb); have n1_ := qM (qP qF hb); clear BK391; clear HB; have BK391 := n0_; have HB := n1_; clear n0_ n1_; (try clear hb); (try clear hb2); (try clear hk); (try clear hi))); try go_wp2_with (first | (go_at_call 12; (with_reducible refine (cst_Len.calls ((rd_T26 l0_6 x10_2).f0) ((rd_T26 l0_6 x10_2).f1) ((rd_T26 l0_6 x10_2).f2) ((rd_T26 l0_6 x10_2).f3) _ _ ((rd_T26 l0_6 x10_2).f4) ((rd_T26 l0_6 x10_2).f5) _ _ ((rd_T26 l0_6 x10_2).f6) t404 _ ?side1 ?side2 ?side3 ?side4 A26.out).mono ?_); (case side1 => exact qC HR403_4.out qF); (case side2 => exact HC403_4.out); (case side3 => exact qC HR403_6.out qF); (case side4 => exact HC403_6.out); rintro e w31 ⟨rfl, hb⟩; have n0_ := qM (qb (g := gb391) qK hb); have n1_ := qM (qP qF hb); clear BK391; clear HB; have BK391 := n0_; have HB := n1_; clear n0_ n1_; (try clear hb); (try clear hb2); (try clear hk); (try clear hi); obtain ⟨hcz32_0, hcz32_1, hcz32_2, hcz32_3, hcz32_4, hcz32_5, hcz32_6, hfz32_0, hfz32_1, hfz32_2, hfz32_3, hfz32_4, hfz32_5, hfz32_6⟩ := bx7 BK391.out; have p405 : 0 ≤ (x10_2 : Int) := qo qX; have q405 : x10_2 < (l0_6.length : Int) := qo qX; obtain ⟨ad405, A405_4, c405_4, A405_6, c405_6, e405, hx405_0, hx405_1, hx405_2, hx405_3, hx405_4, hx405_5, hx405_6, hl405_4, hi405_4, hl405_6, hi405_6⟩ := at_T26 HR0_6.out x10_2 p405 q405; obtain rfl : ad403 = ad405 := (by injection e405); replace hx405_0 := (HB.out.cell (qB w _ hx405_0)).trans hx405_0; replace hx405_1 := (HB.out.cell (qB w _ hx405_1)).trans hx405_1; replace hx405_2 := (HB.out.cell (qB w _ hx405_2)).trans hx405_2; replace hx405_3 := (HB.out.cell (qB w _ hx405_3)).trans hx405_3; replace hx405_4 := (HB.out.cell (qB w _ hx405_4)).trans hx405_4; replace hx405_5 := (HB.out.cell (qB w _ hx405_5)).trans hx405_5; replace hx405_6 := (HB.out.cell (qB w _ hx405_6)).trans hx405_6; have HR405_4 := qM hi405_4; have HC405_4 := qM hl405_4; clear hi405_4 hl405_4; have HR405_6 := qM hi405_6; have HC405_6 := qM hl405_6; clear hi405_6 hl405_6; replace p405 := eq_true p405; replace q405 := eq_true q405) | (go_at_call 14; (with_reducible refine (cst_Size.calls ((rd_T26 l0_6 x10_2).f0) ((rd_T26 l0_6 x10_2).f1) ((rd_T26 l0_6 x10_2).f2) ((rd_T26 l0_6 x10_2).f3) _ _ ((rd_T26 l0_6 x10_2).f4) ((rd_T26 l0_6 x10_2).f5) _ _ ((rd_T26 l0_6 x10_2).f6) t406 _ ?side1 ?side2 ?side3 ?side4 A27.out).mono ?_); (case side1 => exact qC HR405_4.out qF); (case side2 => exact HC405_4.out); (case side3 => exact qC HR405_6.out qF); (case side4 => exact HC405_6.out); rintro e w33 ⟨rfl, hb⟩; have n0_ := qM (qb (g := gb391) qK hb); have n1_ := qM (qP qF hb); clear BK391; clear HB; have BK391 := n0_; have HB := n1_; clear n0_ n1_; (try clear hb); (try clear hb2); (try clear hk); (try clear hi); obtain ⟨hcz34_0, hcz34_1, hcz34_2, hcz34_3, hcz34_4, hcz34_5, hcz34_6, hfz34_0, hfz34_1, hfz34_2, hfz34_3, hfz34_4, hfz34_5, hfz34_6⟩ := bx7 BK391.out; have p407 : 0 ≤ (x10_2 : Int) := qo qX; have q407 : x10_2 < (l0_6.length : Int) := qo qX; obtain ⟨ad407, A407_4, c407_4, A407_6, c407_6, e407, hx407_0, hx407_1, hx407_2, hx407_3, hx407_4, hx407_5, hx407_6, hl407_4, hi407_4, hl407_6, hi407_6⟩ := at_T26 HR0_6.out x10_2 p407 q407; obtain rfl : ad403 = ad407 := (by injection e407); replace hx407_0 := (HB.out.cell (qB w _ hx407_0)).trans hx407_0; replace hx407_1 := (HB.out.cell (qB w _ hx407_1)).trans hx407_1; replace hx407_2 := (HB.out.cell (qB w _ hx407_2)).trans hx407_2; replace hx407_3 := (HB.out.cell (qB w _ hx407_3)).trans hx407_3; replace hx407_4 := (HB.out.cell (qB w _ hx407_4)).trans hx407_4; replace hx407_5 := (HB.out.cell (qB w _ hx407_5)).trans hx407_5; replace hx407_6 := (HB.out.cell (qB w _ hx407_6)).trans hx407_6; have HR407_4 := qM hi407_4; have HC407_4 := qM hl407_4; clear hi407_4 hl407_4; have HR407_6 := qM hi407_6; have HC407_6 := qM hl407_6; clear hi407_6 hl407_6; replace p407 := eq_true p407; replace q407 := eq_true q407) | (go_at_call 19; (with_reducible refine (cst_Clean.calls ((rd_T26 l0_6 x10_2).f0) ((rd_T26 l0_6 x10_2).f1) ((rd_T26 l0_6 x10_2).f2) ((rd_T26 l0_6 x10_2).f3) _ _ ((rd_T26 l0_6 x10_2).f4) ((rd_T26 l0_6 x10_2).f5) _ _ ((rd_T26 l0_6 x10_2).f6) t408 _ ?side1 ?side2 ?side3 ?side4 A29.out).mono ?_); (case side1 => exact qC HR407_4.out qF); (case side2 => exact HC407_4.out); (case side3 => exact qC HR407_6.out qF); (case side4 => exact HC407_6.out); rintro e w35 ⟨rfl, hb⟩; have n0_ := qM (qb (g := gb391) qK hb); have n1_ := qM (qP qF hb); clear BK391; clear HB; have BK391 := n0_; have HB := n1_; clear n0_ n1_; (try clear hb); (try clear hb2); (try clear hk); (try clear hi))))
          go_roundg k2
          case measure => have := HK1.out; have := HK2.out; omega
          case rel => exact ⟨(wrap64 (x7_2 + t404)), (wrap64 (x8_2 + t406)), (t408), (wrap64 (x10_2 + 1)), qV, qV, qV, qV, H', ⟨by have := HK1.out; have := HK2.out; omega⟩, ⟨qK⟩, ⟨qF⟩⟩
         ·replace c28 := Bool.eq_false_iff.mpr c28
          subst c28; (have H1 : (arboristlaw42_CstBytes.l2 k2 x4_1 (wrap64 (x7_2 + t404)) (wrap64 (x8_2 + t406)) false (wrap64 (x10_2 + 1)) a0_0 a0_1 a0_2 a0_3 l0_4 a0_5 l0_6) = some r := by rw [if_neg (show ¬ (false = true) by decide)] at H; exact H); clear H; (have H := H1); clear H1; (have H' := qM H); clear H; (obtain ⟨hcz36_0, hcz36_1, hcz36_2, hcz36_3, hcz36_4, hcz36_5, hcz36_6, hfz36_0, hfz36_1, hfz36_2, hfz36_3, hfz36_4, hfz36_5, hfz36_6⟩ := bx7 BK391.out); (have p403 : 0 ≤ (x10_2 : Int) := qo qX); (have q403 : x10_2 < (l0_6.length : Int) := qo qX); (obtain ⟨ad403, A403_4, c403_4, A403_6, c403_6, e403, hx403_0, hx403_1, hx403_2, hx403_3, hx403_4, hx403_5, hx403_6, hl403_4, hi403_4, hl403_6, hi403_6⟩ := at_T26 HR0_6.out x10_2 p403 q403)
          cases e403
          (replace hx403_0 := (HB.out.cell (qB w _ hx403_0)).trans hx403_0); (replace hx403_1 := (HB.out.cell (qB w _ hx403_1)).trans hx403_1); (replace hx403_2 := (HB.out.cell (qB w _ hx403_2)).trans hx403_2); (replace hx403_3 := (HB.out.cell (qB w _ hx403_3)).trans hx403_3); (replace hx403_4 := (HB.out.cell (qB w _ hx403_4)).trans hx403_4); (replace hx403_5 := (HB.out.cell (qB w _ hx403_5)).trans hx403_5); (replace hx403_6 := (HB.out.cell (qB w _ hx403_6)).trans hx403_6); (have HR403_4 := qM hi403_4); (have HC403_4 := qM hl403_4); clear hi403_4 hl403_4; (have HR403_6 := qM hi403_6); (have HC403_6 := qM hl403_6); clear hi403_6 hl403_6; (replace p403 := eq_true p403); (replace q403 := eq_true q403)
          go_wp2_with (first | (go_at_call 12; (with_reducible refine (cst_Len.calls ((rd_T26 l0_6 x10_2).f0) ((rd_T26 l0_6 x10_2).f1) ((rd_T26 l0_6 x10_2).f2) ((rd_T26 l0_6 x10_2).f3) _ _ ((rd_T26 l0_6 x10_2).f4) ((rd_T26 l0_6 x10_2).f5) _ _ ((rd_T26 l0_6 x10_2).f6) t404 _ ?side1 ?side2 ?side3 ?side4 A26.out).mono ?_); (case side1 => exact qC HR403_4.out qF); (case side2 => exact HC403_4.out); (case side3 => exact qC HR403_6.out qF); (case side4 => exact HC403_6.out); rintro e w37 ⟨rfl, hb⟩; have n0_ := qM (qb (g := gb391) qK hb); have n1_ := qM (qP qF hb); clear BK391; clear HB; have BK391 := n0_; have HB := n1_; clear n0_ n1_; (try clear hb); (try clear hb2); (try clear hk); (try clear hi); obtain ⟨hcz38_0, hcz38_1, hcz38_2, hcz38_3, hcz38_4, hcz38_5, hcz38_6, hfz38_0, hfz38_1, hfz38_2, hfz38_3, hfz38_4, hfz38_5, hfz38_6⟩ := bx7 BK391.out; have p405 : 0 ≤ (x10_2 : Int) := qo qX; have q405 : x10_2 < (l0_6.length : Int) := qo qX; obtain ⟨ad405, A405_4, c405_4, A405_6, c405_6, e405, hx405_0, hx405_1, hx405_2, hx405_3, hx405_4, hx405_5, hx405_6, hl405_4, hi405_4, hl405_6, hi405_6⟩ := at_T26 HR0_6.out x10_2 p405 q405; obtain rfl : ad403 = ad405 := (by injection e405); replace hx405_0 := (HB.out.cell (qB w _ hx405_0)).trans hx405_0; replace hx405_1 := (HB.out.cell (qB w _ hx405_1)).trans hx405_1; replace hx405_2 := (HB.out.cell (qB w _ hx405_2)).trans hx405_2; replace hx405_3 := (HB.out.cell (qB w _ hx405_3)).trans hx405_3; replace hx405_4 := (HB.out.cell (qB w _ hx405_4)).trans hx405_4; replace hx405_5 := (HB.out.cell (qB w _ hx405_5)).trans hx405_5; replace hx405_6 := (HB.out.cell (qB w _ hx405_6)).trans hx405_6; have HR405_4 := qM hi405_4; have HC405_4 := qM hl405_4; clear hi405_4 hl405_4; have HR405_6 := qM hi405_6; have HC405_6 := qM hl405_6; clear hi405_6 hl405_6; replace p405 := eq_true p405; replace q405 := eq_true q405) | (go_at_call 14; (with_reducible refine (cst_Size.calls ((rd_T26 l0_6 x10_2).f0) ((rd_T26 l0_6 x10_2).f1) ((rd_T26 l0_6 x10_2).f2) ((rd_T26 l0_6 x10_2).f3) _ _ ((rd_T26 l0_6 x10_2).f4) ((rd_T26 l0_6 x10_2).f5) _ _ ((rd_T26 l0_6 x10_2).f6) t406 _ ?side1 ?side2 ?side3 ?side4 A27.out).mono ?_); (case side1 => exact qC HR405_4.out qF); (case side2 => exact HC405_4.out); (case side3 => exact qC HR405_6.out qF); (case side4 => exact HC405_6.out); rintro e w39 ⟨rfl, hb⟩; have n0_ := qM (qb (g := gb391) qK hb); have n1_ := qM (qP qF hb); clear BK391; clear HB; have BK391 := n0_; have HB := n1_; clear n0_ n1_; (try clear hb); (try clear hb2); (try clear hk); (try clear hi)))
          repeat (go_quiet (first | (go_at_call 12; (with_reducible refine (cst_Len.calls ((rd_T26 l0_6 x10_2).f0) ((rd_T26 l0_6 x10_2).f1) ((rd_T26 l0_6 x10_2).f2) ((rd_T26 l0_6 x10_2).f3) _ _ ((rd_T26 l0_6 x10_2).f4) ((rd_T26 l0_6 x10_2).f5) _ _ ((rd_T26 l0_6 x10_2).f6) t404 _ ?side1 ?side2 ?side3 ?side4 A26.out).mono ?_); (case side1 => exact qC HR403_4.out qF); (case side2 => exact HC403_4.out); (case side3 => exact qC HR403_6.out qF); (case side4 => exact HC403_6.out); rintro e w37 ⟨rfl, hb⟩; have n0_ := qM (qb (g := gb391) qK hb); have n1_ := qM (qP qF hb); clear BK391; clear HB; have BK391 := n0_; have HB := n1_; clear n0_ n1_; (try clear hb); (try clear hb2); (try clear hk); (try clear hi); obtain ⟨hcz38_0, hcz38_1, hcz38_2, hcz38_3, hcz38_4, hcz38_5, hcz38_6, hfz38_0, hfz38_1, hfz38_2, hfz38_3, hfz38_4, hfz38_5, hfz38_6⟩ := bx7 BK391.out; have p405 : 0 ≤ (x10_2 : Int) := qo qX; have q405 : x10_2 < (l0_6.length : Int) := qo qX; obtain ⟨ad405, A405_4, c405_4, A405_6, c405_6, e405, hx405_0, hx405_1, hx405_2, hx405_3, hx405_4, hx405_5, hx405_6, hl405_4, hi405_4, hl405_6, hi405_6⟩ := at_T26 HR0_6.out x10_2 p405 q405; obtain rfl : ad403 = ad405 := (by injection e405); replace hx405_0 := (HB.out.cell (qB w _ hx405_0)).trans hx405_0; replace hx405_1 := (HB.out.cell (qB w _ hx405_1)).trans hx405_1; replace hx405_2 := (HB.out.cell (qB w _ hx405_2)).trans hx405_2; replace hx405_3 := (HB.out.cell (qB w _ hx405_3)).trans hx405_3; replace hx405_4 := (HB.out.cell (qB w _ hx405_4)).trans hx405_4; replace hx405_5 := (HB.out.cell (qB w _ hx405_5)).trans hx405_5; replace hx405_6 := (HB.out.cell (qB w _ hx405_6)).trans hx405_6; have HR405_4 := qM hi405_4; have HC405_4 := qM hl405_4; clear hi405_4 hl405_4; have HR405_6 := qM hi405_6; have HC405_6 := qM hl405_6; clear hi405_6 hl405_6; replace p405 := eq_true p405; replace q405 := eq_true q405) | (go_at_call 14; (with_reducible refine (cst_Size.calls ((rd_T26 l0_6 x10_2).f0) ((rd_T26 l0_6 x10_2).f1) ((rd_T26 l0_6 x10_2).f2) ((rd_T26 l0_6 x10_2).f3) _ _ ((rd_T26 l0_6 x10_2).f4) ((rd_T26 l0_6 x10_2).f5) _ _ ((rd_T26 l0_6 x10_2).f6) t406 _ ?side1 ?side2 ?side3 ?side4 A27.out).mono ?_); (case side1 => exact qC HR405_4.out qF); (case side2 => exact HC405_4.out); (case side3 => exact qC HR405_6.out qF); (case side4 => exact HC405_6.out); rintro e w39 ⟨rfl, hb⟩; have n0_ := qM (qb (g := gb391) qK hb); have n1_ := qM (qP qF hb); clear BK391; clear HB; have BK391 := n0_; have HB := n1_; clear n0_ n1_; (try clear hb); (try clear hb2); (try clear hk); (try clear hi))); try go_wp2_with (first | (go_at_call 12; (with_reducible refine (cst_Len.calls ((rd_T26 l0_6 x10_2).f0) ((rd_T26 l0_6 x10_2).f1) ((rd_T26 l0_6 x10_2).f2) ((rd_T26 l0_6 x10_2).f3) _ _ ((rd_T26 l0_6 x10_2).f4) ((rd_T26 l0_6 x10_2).f5) _ _ ((rd_T26 l0_6 x10_2).f6) t404 _ ?side1 ?side2 ?side3 ?side4 A26.out).mono ?_); (case side1 => exact qC HR403_4.out qF); (case side2 => exact HC403_4.out); (case side3 => exact qC HR403_6.out qF); (case side4 => exact HC403_6.out); rintro e w37 ⟨rfl, hb⟩; have n0_ := qM (qb (g := gb391) qK hb); have n1_ := qM (qP qF hb); clear BK391; clear HB; have BK391 := n0_; have HB := n1_; clear n0_ n1_; (try clear hb); (try clear hb2); (try clear hk); (try clear hi); obtain ⟨hcz38_0, hcz38_1, hcz38_2, hcz38_3, hcz38_4, hcz38_5, hcz38_6, hfz38_0, hfz38_1, hfz38_2, hfz38_3, hfz38_4, hfz38_5, hfz38_6⟩ := bx7 BK391.out; have p405 : 0 ≤ (x10_2 : Int) := qo qX; have q405 : x10_2 < (l0_6.length : Int) := qo qX; obtain ⟨ad405, A405_4, c405_4, A405_6, c405_6, e405, hx405_0, hx405_1, hx405_2, hx405_3, hx405_4, hx405_5, hx405_6, hl405_4, hi405_4, hl405_6, hi405_6⟩ := at_T26 HR0_6.out x10_2 p405 q405; obtain rfl : ad403 = ad405 := (by injection e405); replace hx405_0 := (HB.out.cell (qB w _ hx405_0)).trans hx405_0; replace hx405_1 := (HB.out.cell (qB w _ hx405_1)).trans hx405_1; replace hx405_2 := (HB.out.cell (qB w _ hx405_2)).trans hx405_2; replace hx405_3 := (HB.out.cell (qB w _ hx405_3)).trans hx405_3; replace hx405_4 := (HB.out.cell (qB w _ hx405_4)).trans hx405_4; replace hx405_5 := (HB.out.cell (qB w _ hx405_5)).trans hx405_5; replace hx405_6 := (HB.out.cell (qB w _ hx405_6)).trans hx405_6; have HR405_4 := qM hi405_4; have HC405_4 := qM hl405_4; clear hi405_4 hl405_4; have HR405_6 := qM hi405_6; have HC405_6 := qM hl405_6; clear hi405_6 hl405_6; replace p405 := eq_true p405; replace q405 := eq_true q405) | (go_at_call 14; (with_reducible refine (cst_Size.calls ((rd_T26 l0_6 x10_2).f0) ((rd_T26 l0_6 x10_2).f1) ((rd_T26 l0_6 x10_2).f2) ((rd_T26 l0_6 x10_2).f3) _ _ ((rd_T26 l0_6 x10_2).f4) ((rd_T26 l0_6 x10_2).f5) _ _ ((rd_T26 l0_6 x10_2).f6) t406 _ ?side1 ?side2 ?side3 ?side4 A27.out).mono ?_); (case side1 => exact qC HR405_4.out qF); (case side2 => exact HC405_4.out); (case side3 => exact qC HR405_6.out qF); (case side4 => exact HC405_6.out); rintro e w39 ⟨rfl, hb⟩; have n0_ := qM (qb (g := gb391) qK hb); have n1_ := qM (qP qF hb); clear BK391; clear HB; have BK391 := n0_; have HB := n1_; clear n0_ n1_; (try clear hb); (try clear hb2); (try clear hk); (try clear hi))))
          go_roundg k2
          case measure => have := HK1.out; have := HK2.out; omega
          case rel => exact ⟨(wrap64 (x7_2 + t404)), (wrap64 (x8_2 + t406)), (false), (wrap64 (x10_2 + 1)), qV, qV, qV, qV, H', ⟨by have := HK1.out; have := HK2.out; omega⟩, ⟨qK⟩, ⟨qF⟩⟩
        ·rw [if_neg c25] at H
         exact absurd H (by simp)
       ·rw [if_neg c24] at H
        (have c24b0 : decide (x10_2 < (l0_6.length : Int)) = false := decide_eq_false c24); clear c24; (replace H := Option.bind_eq_some_iff.mp H); (obtain ⟨t410, A400, H⟩ := H)
        replace H : (if t410.toList = x4_1.toList then ((cst_Len.f a0_0 a0_1 a0_2 a0_3 l0_4 a0_5 l0_6).bind fun t411 => (if t411 = (x4_1.size : Int) then ((cst_Len.f a0_0 a0_1 a0_2 a0_3 l0_4 a0_5 ([] : List (S26))).bind fun t412 => (if (wrap64 (t412 + x7_2)) = (x4_1.size : Int) then ((cst_Size.f a0_0 a0_1 a0_2 a0_3 l0_4 a0_5 l0_6).bind fun t413 => (if t413 = x8_2 then ((cst_Clean.f a0_0 a0_1 a0_2 a0_3 l0_4 a0_5 l0_6).bind fun t414 => (if x9_2 = true then ((cst_Clean.f a0_0 a0_1 a0_2 a0_3 l0_4 a0_5 ([] : List (S26))).bind fun t415 => (if (t414 == t415) = true then ((arboristlaw42_knows.f).bind fun t416 => (some t416)) else (none))) else (if (t414 == false) = true then ((arboristlaw42_knows.f).bind fun t417 => (some t417)) else (none)))) else (none))) else (none))) else (none))) else (some false)) = some r := H
        (have A40 := qM A400); clear A400; (by_cases c41 : t410.toList = x4_1.toList)
        ·rw [if_pos c41] at H
         (have c41b0 : (t410.toList == x4_1.toList) = true := beq_iff_eq.mpr c41); (have c41b1 : (t410.toList != x4_1.toList) = false := bne_eq_false_iff_eq.mpr c41); clear c41; (replace H := Option.bind_eq_some_iff.mp H); (obtain ⟨t411, A420, H⟩ := H); (replace H : (if t411 = (x4_1.size : Int) then ((cst_Len.f a0_0 a0_1 a0_2 a0_3 l0_4 a0_5 ([] : List (S26))).bind fun t412 => (if (wrap64 (t412 + x7_2)) = (x4_1.size : Int) then ((cst_Size.f a0_0 a0_1 a0_2 a0_3 l0_4 a0_5 l0_6).bind fun t413 => (if t413 = x8_2 then ((cst_Clean.f a0_0 a0_1 a0_2 a0_3 l0_4 a0_5 l0_6).bind fun t414 => (if x9_2 = true then ((cst_Clean.f a0_0 a0_1 a0_2 a0_3 l0_4 a0_5 ([] : List (S26))).bind fun t415 => (if (t414 == t415) = true then ((arboristlaw42_knows.f).bind fun t416 => (some t416)) else (none))) else (if (t414 == false) = true then ((arboristlaw42_knows.f).bind fun t417 => (some t417)) else (none)))) else (none))) else (none))) else (none)) = some r := H); (have A42 := qM A420); clear A420; (by_cases c43 : t411 = (x4_1.size : Int))
         ·rw [if_pos c43] at H
          (have c43b0 : (t411 == (x4_1.size : Int)) = true := beq_iff_eq.mpr c43); (have c43b1 : (t411 != (x4_1.size : Int)) = false := bne_eq_false_iff_eq.mpr c43); clear c43; (replace H := Option.bind_eq_some_iff.mp H); (obtain ⟨t412, A440, H⟩ := H); (replace H : (if (wrap64 (t412 + x7_2)) = (x4_1.size : Int) then ((cst_Size.f a0_0 a0_1 a0_2 a0_3 l0_4 a0_5 l0_6).bind fun t413 => (if t413 = x8_2 then ((cst_Clean.f a0_0 a0_1 a0_2 a0_3 l0_4 a0_5 l0_6).bind fun t414 => (if x9_2 = true then ((cst_Clean.f a0_0 a0_1 a0_2 a0_3 l0_4 a0_5 ([] : List (S26))).bind fun t415 => (if (t414 == t415) = true then ((arboristlaw42_knows.f).bind fun t416 => (some t416)) else (none))) else (if (t414 == false) = true then ((arboristlaw42_knows.f).bind fun t417 => (some t417)) else (none)))) else (none))) else (none)) = some r := H); (have A44 := qM A440); clear A440; (by_cases c45 : (wrap64 (t412 + x7_2)) = (x4_1.size : Int))
          ·rw [if_pos c45] at H
           (have c45b0 : ((wrap64 (t412 + x7_2)) == (x4_1.size : Int)) = true := beq_iff_eq.mpr c45); (have c45b1 : ((wrap64 (t412 + x7_2)) != (x4_1.size : Int)) = false := bne_eq_false_iff_eq.mpr c45); clear c45; (replace H := Option.bind_eq_some_iff.mp H); (obtain ⟨t413, A460, H⟩ := H); (replace H : (if t413 = x8_2 then ((cst_Clean.f a0_0 a0_1 a0_2 a0_3 l0_4 a0_5 l0_6).bind fun t414 => (if x9_2 = true then ((cst_Clean.f a0_0 a0_1 a0_2 a0_3 l0_4 a0_5 ([] : List (S26))).bind fun t415 => (if (t414 == t415) = true then ((arboristlaw42_knows.f).bind fun t416 => (some t416)) else (none))) else (if (t414 == false) = true then ((arboristlaw42_knows.f).bind fun t417 => (some t417)) else (none)))) else (none)) = some r := H); (have A46 := qM A460); clear A460; (by_cases c47 : t413 = x8_2)
           ·rw [if_pos c47] at H
            (have c47b0 : (t413 == x8_2) = true := beq_iff_eq.mpr c47); (have c47b1 : (t413 != x8_2) = false := bne_eq_false_iff_eq.mpr c47); clear c47; (replace H := Option.bind_eq_some_iff.mp H); (obtain ⟨t414, A480, H⟩ := H); (replace H : (if x9_2 = true then ((cst_Clean.f a0_0 a0_1 a0_2 a0_3 l0_4 a0_5 ([] : List (S26))).bind fun t415 => (if (t414 == t415) = true then ((arboristlaw42_knows.f).bind fun t416 => (some t416)) else (none))) else (if (t414 == false) = true then ((arboristlaw42_knows.f).bind fun t417 => (some t417)) else (none))) = some r := H); (have A48 := qM A480); clear A480; (by_cases c49 : x9_2 = true)
            ·subst c49
             (have H1 : ((cst_Clean.f a0_0 a0_1 a0_2 a0_3 l0_4 a0_5 ([] : List (S26))).bind fun t415 => (if (t414 == t415) = true then ((arboristlaw42_knows.f).bind fun t416 => (some t416)) else (none))) = some r := by rw [if_pos rfl] at H; exact H); clear H; (have H := H1); clear H1; (replace H := Option.bind_eq_some_iff.mp H); (obtain ⟨t415, A500, H⟩ := H); (replace H : (if (t414 == t415) = true then ((arboristlaw42_knows.f).bind fun t416 => (some t416)) else (none)) = some r := H); (have A50 := qM A500); clear A500; (by_cases c51 : (t414 == t415) = true)
             ·rw [if_pos c51] at H
              (have c51b0 : (t414 == t415) = true := c51); ((try (have c51b1 : decide (t414 = t415) = true := by simpa using c51))); ((try (have c51b2 : (t414 == t415) = true := by simpa using c51))); clear c51; (replace H := Option.bind_eq_some_iff.mp H); (obtain ⟨t416, A520, H⟩ := H); (replace H : (some t416) = some r := H); (have A52 := qM A520); clear A520; (obtain rfl := Option.some.inj H); (obtain ⟨hcz53_0, hcz53_1, hcz53_2, hcz53_3, hcz53_4, hcz53_5, hcz53_6, hfz53_0, hfz53_1, hfz53_2, hfz53_3, hfz53_4, hfz53_5, hfz53_6⟩ := bx7 BK391.out)
              go_wp2_with (first | ((with_reducible refine gate_dst (N := 11) rfl ?_); (try (refine gate_guard (by rfl) ?_; dsimp only)); refine box_event ?hg (N := 11) ?hd (cs := #[.int .i64 0, .int .i64 0, .int .i64 0, .int .i64 0, .slice none 0 0, .string (⟨#[]⟩ : ByteArray), .slice none 0 0]) (t := 26) ?hr ?_; (case hd => rfl); (case hg => rfl); (case hr => first | (go_simp; done) | (go_simp; rfl)); intro gb409 hg w54 hbox hb; have n0_ := qM (qb (g := gb391) qK hb); have n1_ := qM (qP qF hb); have n2_ := qM (hbox); have n3_ := qM ((by rw [hg]; exact (qZ qF) : w.heap.size ≤ gb409)); have n4_ := qM ((by rw [hg]; exact (qZ qF) : w.heap.size ≤ gb409)); have n5_ := qM ((by rw [hg]; exact Nat.ne_of_lt (ql (g := gb391) qK) : gb391 ≠ gb409)); have n6_ := qM ((by rw [hg]; exact Nat.ne_of_gt (ql (g := gb391) qK) : gb409 ≠ gb391)); clear BK391; clear HB; have BK391 := n0_; have HB := n1_; have BK409 := n2_; have GW409 := n3_; have GE409 := n4_; have NB391_409 := n5_; have NB409_391 := n6_; clear n0_ n1_ n2_ n3_ n4_ n5_ n6_; clear hb hbox hg; have hnb55 := NB409_391.out; have hnc55 := NB391_409.out; obtain ⟨hcz56_0, hcz56_1, hcz56_2, hcz56_3, hcz56_4, hcz56_5, hcz56_6, hfz56_0, hfz56_1, hfz56_2, hfz56_3, hfz56_4, hfz56_5, hfz56_6⟩ := bx7 BK409.out; obtain ⟨hcz57_0, hcz57_1, hcz57_2, hcz57_3, hcz57_4, hcz57_5, hcz57_6, hfz57_0, hfz57_1, hfz57_2, hfz57_3, hfz57_4, hfz57_5, hfz57_6⟩ := bx7 BK391.out) | (go_at_call 10; (with_reducible refine (cst_Text.calls a0_0 a0_1 a0_2 a0_3 _ _ l0_4 a0_5 _ _ l0_6 t410 _ ?side1 ?side2 ?side3 ?side4 A40.out).mono ?_); (case side1 => exact Kd.C_below HR0_4.out qF); (case side2 => exact HC0_4.out); (case side3 => exact Kd.C_below HR0_6.out qF); (case side4 => exact HC0_6.out); rintro e w58 ⟨rfl, hb⟩; have n0_ := qM (qb (g := gb391) (o := .cells #[.int .i64 a0_0, .int .i64 a0_1, .int .i64 a0_2, .int .i64 a0_3, .slice A0_4 l0_4.length c0_4, .string a0_5, .slice A0_6 l0_6.length c0_6] 26 (0, 0)) (by (with_reducible repeat (first | refine qn ?_ _ | refine qd ?_ | refine qa ?_ _)); refine qf ?_ NB391_409.out _; (with_reducible repeat (first | refine qn ?_ _ | refine qd ?_ | refine qa ?_ _)); refine qf ?_ NB391_409.out _; (with_reducible repeat (first | refine qn ?_ _ | refine qd ?_ | refine qa ?_ _)); refine qf ?_ NB391_409.out _; (with_reducible repeat (first | refine qn ?_ _ | refine qd ?_ | refine qa ?_ _)); refine qf ?_ NB391_409.out _; (with_reducible repeat (first | refine qn ?_ _ | refine qd ?_ | refine qa ?_ _)); refine qf ?_ NB391_409.out _; (with_reducible repeat (first | refine qn ?_ _ | refine qd ?_ | refine qa ?_ _)); refine qf ?_ NB391_409.out _; (with_reducible repeat (first | refine qn ?_ _ | refine qd ?_ | refine qa ?_ _)); refine qf ?_ NB391_409.out _; (with_reducible repeat (first | refine qn ?_ _ | refine qd ?_ | refine qa ?_ _)); refine qf ?_ NB391_409.out _; (with_reducible repeat (first | refine qn ?_ _ | refine qd ?_ | refine qa ?_ _)); exact BK391.out) hb); have n1_ := qM (qb (g := gb409) (o := .cells #[.int .i64 a0_0, .int .i64 a0_1, .int .i64 a0_2, .int .i64 a0_3, .slice A0_4 l0_4.length c0_4, .string a0_5, .slice none 0 0] 26 (0, 0)) (by (with_reducible repeat (first | refine qn ?_ _ | refine qd ?_ | refine qa ?_ _)); refine blk_put (cs := #[.int .i64 a0_0, .int .i64 a0_1, .int .i64 a0_2, .int .i64 a0_3, .slice A0_4 l0_4.length c0_4, .string a0_5, .slice A0_6 l0_6.length c0_6]) ?_ 6 _ rfl; (with_reducible repeat (first | refine qn ?_ _ | refine qd ?_ | refine qa ?_ _)); refine blk_put (cs := #[.int .i64 a0_0, .int .i64 a0_1, .int .i64 a0_2, .int .i64 a0_3, .slice A0_4 l0_4.length c0_4, .string a0_5, .slice none 0 0]) ?_ 6 _ rfl; (with_reducible repeat (first | refine qn ?_ _ | refine qd ?_ | refine qa ?_ _)); refine blk_put (cs := #[.int .i64 a0_0, .int .i64 a0_1, .int .i64 a0_2, .int .i64 a0_3, .slice A0_4 l0_4.length c0_4, .string (⟨#[]⟩ : ByteArray), .slice none 0 0]) ?_ 5 _ rfl; (with_reducible repeat (first | refine qn ?_ _ | refine qd ?_ | refine qa ?_ _)); refine blk_put (cs := #[.int .i64 a0_0, .int .i64 a0_1, .int .i64 a0_2, .int .i64 a0_3, .slice none 0 0, .string (⟨#[]⟩ : ByteArray), .slice none 0 0]) ?_ 4 _ rfl; (with_reducible repeat (first | refine qn ?_ _ | refine qd ?_ | refine qa ?_ _)); refine blk_put (cs := #[.int .i64 a0_0, .int .i64 a0_1, .int .i64 a0_2, .int .i64 0, .slice none 0 0, .string (⟨#[]⟩ : ByteArray), .slice none 0 0]) ?_ 3 _ rfl; (with_reducible repeat (first | refine qn ?_ _ | refine qd ?_ | refine qa ?_ _)); refine blk_put (cs := #[.int .i64 a0_0, .int .i64 a0_1, .int .i64 0, .int .i64 0, .slice none 0 0, .string (⟨#[]⟩ : ByteArray), .slice none 0 0]) ?_ 2 _ rfl; (with_reducible repeat (first | refine qn ?_ _ | refine qd ?_ | refine qa ?_ _)); refine blk_put (cs := #[.int .i64 a0_0, .int .i64 0, .int .i64 0, .int .i64 0, .slice none 0 0, .string (⟨#[]⟩ : ByteArray), .slice none 0 0]) ?_ 1 _ rfl; (with_reducible repeat (first | refine qn ?_ _ | refine qd ?_ | refine qa ?_ _)); refine blk_put (cs := #[.int .i64 0, .int .i64 0, .int .i64 0, .int .i64 0, .slice none 0 0, .string (⟨#[]⟩ : ByteArray), .slice none 0 0]) ?_ 0 _ rfl; (with_reducible repeat (first | refine qn ?_ _ | refine qd ?_ | refine qa ?_ _)); exact BK409.out) hb); have n2_ := qM (qP qF hb); clear BK391; clear BK409; clear HB; have BK391 := n0_; have BK409 := n1_; have HB := n2_; clear n0_ n1_ n2_; (try clear hb); (try clear hb2); (try clear hk); (try clear hi); obtain ⟨hcz59_0, hcz59_1, hcz59_2, hcz59_3, hcz59_4, hcz59_5, hcz59_6, hfz59_0, hfz59_1, hfz59_2, hfz59_3, hfz59_4, hfz59_5, hfz59_6⟩ := bx7 BK391.out) | (go_at_call 12; (with_reducible refine (cst_Len.calls a0_0 a0_1 a0_2 a0_3 _ _ l0_4 a0_5 _ _ l0_6 t411 _ ?side1 ?side2 ?side3 ?side4 A42.out).mono ?_); (case side1 => exact qC HR0_4.out qF); (case side2 => exact HC0_4.out); (case side3 => exact qC HR0_6.out qF); (case side4 => exact HC0_6.out); rintro e w60 ⟨rfl, hb⟩; have n0_ := qM (qb (g := gb391) qK hb); have n1_ := qM (qb (g := gb409) qK hb); have n2_ := qM (qP qF hb); clear BK391; clear BK409; clear HB; have BK391 := n0_; have BK409 := n1_; have HB := n2_; clear n0_ n1_ n2_; (try clear hb); (try clear hb2); (try clear hk); (try clear hi); obtain ⟨hcz61_0, hcz61_1, hcz61_2, hcz61_3, hcz61_4, hcz61_5, hcz61_6, hfz61_0, hfz61_1, hfz61_2, hfz61_3, hfz61_4, hfz61_5, hfz61_6⟩ := bx7 BK409.out) | (go_at_call 12; (refine (cst_Len.calls a0_0 a0_1 a0_2 a0_3 _ _ l0_4 a0_5 _ _ ([] : List (S26)) t412 _ ?side1 ?side2 ?side3 ?side4 A44.out).mono ?_); (case side1 => exact qC HR0_4.out qF); (case side2 => exact HC0_4.out); (case side3 => exact Kd.C_nil _ _); (case side4 => exact Nat.le_refl _); rintro e w62 ⟨rfl, hb⟩; have n0_ := qM (qb (g := gb391) qK hb); have n1_ := qM (qb (g := gb409) qK hb); have n2_ := qM (qP qF hb); clear BK391; clear BK409; clear HB; have BK391 := n0_; have BK409 := n1_; have HB := n2_; clear n0_ n1_ n2_; (try clear hb); (try clear hb2); (try clear hk); (try clear hi); obtain ⟨hcz63_0, hcz63_1, hcz63_2, hcz63_3, hcz63_4, hcz63_5, hcz63_6, hfz63_0, hfz63_1, hfz63_2, hfz63_3, hfz63_4, hfz63_5, hfz63_6⟩ := bx7 BK391.out) | (go_at_call 14; (with_reducible refine (cst_Size.calls a0_0 a0_1 a0_2 a0_3 _ _ l0_4 a0_5 _ _ l0_6 t413 _ ?side1 ?side2 ?side3 ?side4 A46.out).mono ?_); (case side1 => exact qC HR0_4.out qF); (case side2 => exact HC0_4.out); (case side3 => exact qC HR0_6.out qF); (case side4 => exact HC0_6.out); rintro e w64 ⟨rfl, hb⟩; have n0_ := qM (qb (g := gb391) qK hb); have n1_ := qM (qb (g := gb409) qK hb); have n2_ := qM (qP qF hb); clear BK391; clear BK409; clear HB; have BK391 := n0_; have BK409 := n1_; have HB := n2_; clear n0_ n1_ n2_; (try clear hb); (try clear hb2); (try clear hk); (try clear hi); obtain ⟨hcz65_0, hcz65_1, hcz65_2, hcz65_3, hcz65_4, hcz65_5, hcz65_6, hfz65_0, hfz65_1, hfz65_2, hfz65_3, hfz65_4, hfz65_5, hfz65_6⟩ := bx7 BK391.out) | (go_at_call 19; (with_reducible refine (cst_Clean.calls a0_0 a0_1 a0_2 a0_3 _ _ l0_4 a0_5 _ _ l0_6 t414 _ ?side1 ?side2 ?side3 ?side4 A48.out).mono ?_); (case side1 => exact qC HR0_4.out qF); (case side2 => exact HC0_4.out); (case side3 => exact qC HR0_6.out qF); (case side4 => exact HC0_6.out); rintro e w66 ⟨rfl, hb⟩; have n0_ := qM (qb (g := gb391) qK hb); have n1_ := qM (qb (g := gb409) qK hb); have n2_ := qM (qP qF hb); clear BK391; clear BK409; clear HB; have BK391 := n0_; have BK409 := n1_; have HB := n2_; clear n0_ n1_ n2_; (try clear hb); (try clear hb2); (try clear hk); (try clear hi); obtain ⟨hcz67_0, hcz67_1, hcz67_2, hcz67_3, hcz67_4, hcz67_5, hcz67_6, hfz67_0, hfz67_1, hfz67_2, hfz67_3, hfz67_4, hfz67_5, hfz67_6⟩ := bx7 BK409.out) | (go_at_call 19; (refine (cst_Clean.calls a0_0 a0_1 a0_2 a0_3 _ _ l0_4 a0_5 _ _ ([] : List (S26)) t415 _ ?side1 ?side2 ?side3 ?side4 A50.out).mono ?_); (case side1 => exact qC HR0_4.out qF); (case side2 => exact HC0_4.out); (case side3 => exact Kd.C_nil _ _); (case side4 => exact Nat.le_refl _); rintro e w68 ⟨rfl, hb⟩; have n0_ := qM (qb (g := gb391) qK hb); have n1_ := qM (qb (g := gb409) qK hb); have n2_ := qM (qP qF hb); clear BK391; clear BK409; clear HB; have BK391 := n0_; have BK409 := n1_; have HB := n2_; clear n0_ n1_ n2_; (try clear hb); (try clear hb2); (try clear hk); (try clear hi)) | (go_at_call 9; (with_reducible refine (arboristlaw42_knows.calls  t416 _ ?side1 A52.out).mono ?_); (case side1 => exact GW.below HGW.out qF); rintro e w69 ⟨rfl, hb⟩; have n0_ := qM (qb (g := gb391) qK hb); have n1_ := qM (qb (g := gb409) qK hb); have n2_ := qM (qP qF hb); clear BK391; clear BK409; clear HB; have BK391 := n0_; have BK409 := n1_; have HB := n2_; clear n0_ n1_ n2_; (try clear hb); (try clear hb2); (try clear hk); (try clear hi)))
              repeat (go_quiet (first | ((with_reducible refine gate_dst (N := 11) rfl ?_); (try (refine gate_guard (by rfl) ?_; dsimp only)); refine box_event ?hg (N := 11) ?hd (cs := #[.int .i64 0, .int .i64 0, .int .i64 0, .int .i64 0, .slice none 0 0, .string (⟨#[]⟩ : ByteArray), .slice none 0 0]) (t := 26) ?hr ?_; (case hd => rfl); (case hg => rfl); (case hr => first | (go_simp; done) | (go_simp; rfl)); intro gb409 hg w54 hbox hb; have n0_ := qM (qb (g := gb391) qK hb); have n1_ := qM (qP qF hb); have n2_ := qM (hbox); have n3_ := qM ((by rw [hg]; exact (qZ qF) : w.heap.size ≤ gb409)); have n4_ := qM ((by rw [hg]; exact (qZ qF) : w.heap.size ≤ gb409)); have n5_ := qM ((by rw [hg]; exact Nat.ne_of_lt (ql (g := gb391) qK) : gb391 ≠ gb409)); have n6_ := qM ((by rw [hg]; exact Nat.ne_of_gt (ql (g := gb391) qK) : gb409 ≠ gb391)); clear BK391; clear HB; have BK391 := n0_; have HB := n1_; have BK409 := n2_; have GW409 := n3_; have GE409 := n4_; have NB391_409 := n5_; have NB409_391 := n6_; clear n0_ n1_ n2_ n3_ n4_ n5_ n6_; clear hb hbox hg; have hnb55 := NB409_391.out; have hnc55 := NB391_409.out; obtain ⟨hcz56_0, hcz56_1, hcz56_2, hcz56_3, hcz56_4, hcz56_5, hcz56_6, hfz56_0, hfz56_1, hfz56_2, hfz56_3, hfz56_4, hfz56_5, hfz56_6⟩ := bx7 BK409.out; obtain ⟨hcz57_0, hcz57_1, hcz57_2, hcz57_3, hcz57_4, hcz57_5, hcz57_6, hfz57_0, hfz57_1, hfz57_2, hfz57_3, hfz57_4, hfz57_5, hfz57_6⟩ := bx7 BK391.out) | (go_at_call 10; (with_reducible refine (cst_Text.calls a0_0 a0_1 a0_2 a0_3 _ _ l0_4 a0_5 _ _ l0_6 t410 _ ?side1 ?side2 ?side3 ?side4 A40.out).mono ?_); (case side1 => exact Kd.C_below HR0_4.out qF); (case side2 => exact HC0_4.out); (case side3 => exact Kd.C_below HR0_6.out qF); (case side4 => exact HC0_6.out); rintro e w58 ⟨rfl, hb⟩; have n0_ := qM (qb (g := gb391) (o := .cells #[.int .i64 a0_0, .int .i64 a0_1, .int .i64 a0_2, .int .i64 a0_3, .slice A0_4 l0_4.length c0_4, .string a0_5, .slice A0_6 l0_6.length c0_6] 26 (0, 0)) (by (with_reducible repeat (first | refine qn ?_ _ | refine qd ?_ | refine qa ?_ _)); refine qf ?_ NB391_409.out _; (with_reducible repeat (first | refine qn ?_ _ | refine qd ?_ | refine qa ?_ _)); refine qf ?_ NB391_409.out _; (with_reducible repeat (first | refine qn ?_ _ | refine qd ?_ | refine qa ?_ _)); refine qf ?_ NB391_409.out _; (with_reducible repeat (first | refine qn ?_ _ | refine qd ?_ | refine qa ?_ _)); refine qf ?_ NB391_409.out _; (with_reducible repeat (first | refine qn ?_ _ | refine qd ?_ | refine qa ?_ _)); refine qf ?_ NB391_409.out _; (with_reducible repeat (first | refine qn ?_ _ | refine qd ?_ | refine qa ?_ _)); refine qf ?_ NB391_409.out _; (with_reducible repeat (first | refine qn ?_ _ | refine qd ?_ | refine qa ?_ _)); refine qf ?_ NB391_409.out _; (with_reducible repeat (first | refine qn ?_ _ | refine qd ?_ | refine qa ?_ _)); refine qf ?_ NB391_409.out _; (with_reducible repeat (first | refine qn ?_ _ | refine qd ?_ | refine qa ?_ _)); exact BK391.out) hb); have n1_ := qM (qb (g := gb409) (o := .cells #[.int .i64 a0_0, .int .i64 a0_1, .int .i64 a0_2, .int .i64 a0_3, .slice A0_4 l0_4.length c0_4, .string a0_5, .slice none 0 0] 26 (0, 0)) (by (with_reducible repeat (first | refine qn ?_ _ | refine qd ?_ | refine qa ?_ _)); refine blk_put (cs := #[.int .i64 a0_0, .int .i64 a0_1, .int .i64 a0_2, .int .i64 a0_3, .slice A0_4 l0_4.length c0_4, .string a0_5, .slice A0_6 l0_6.length c0_6]) ?_ 6 _ rfl; (with_reducible repeat (first | refine qn ?_ _ | refine qd ?_ | refine qa ?_ _)); refine blk_put (cs := #[.int .i64 a0_0, .int .i64 a0_1, .int .i64 a0_2, .int .i64 a0_3, .slice A0_4 l0_4.length c0_4, .string a0_5, .slice none 0 0]) ?_ 6 _ rfl; (with_reducible repeat (first | refine qn ?_ _ | refine qd ?_ | refine qa ?_ _)); refine blk_put (cs := #[.int .i64 a0_0, .int .i64 a0_1, .int .i64 a0_2, .int .i64 a0_3, .slice A0_4 l0_4.length c0_4, .string (⟨#[]⟩ : ByteArray), .slice none 0 0]) ?_ 5 _ rfl; (with_reducible repeat (first | refine qn ?_ _ | refine qd ?_ | refine qa ?_ _)); refine blk_put (cs := #[.int .i64 a0_0, .int .i64 a0_1, .int .i64 a0_2, .int .i64 a0_3, .slice none 0 0, .string (⟨#[]⟩ : ByteArray), .slice none 0 0]) ?_ 4 _ rfl; (with_reducible repeat (first | refine qn ?_ _ | refine qd ?_ | refine qa ?_ _)); refine blk_put (cs := #[.int .i64 a0_0, .int .i64 a0_1, .int .i64 a0_2, .int .i64 0, .slice none 0 0, .string (⟨#[]⟩ : ByteArray), .slice none 0 0]) ?_ 3 _ rfl; (with_reducible repeat (first | refine qn ?_ _ | refine qd ?_ | refine qa ?_ _)); refine blk_put (cs := #[.int .i64 a0_0, .int .i64 a0_1, .int .i64 0, .int .i64 0, .slice none 0 0, .string (⟨#[]⟩ : ByteArray), .slice none 0 0]) ?_ 2 _ rfl; (with_reducible repeat (first | refine qn ?_ _ | refine qd ?_ | refine qa ?_ _)); refine blk_put (cs := #[.int .i64 a0_0, .int .i64 0, .int .i64 0, .int .i64 0, .slice none 0 0, .string (⟨#[]⟩ : ByteArray), .slice none 0 0]) ?_ 1 _ rfl; (with_reducible repeat (first | refine qn ?_ _ | refine qd ?_ | refine qa ?_ _)); refine blk_put (cs := #[.int .i64 0, .int .i64 0, .int .i64 0, .int .i64 0, .slice none 0 0, .string (⟨#[]⟩ : ByteArray), .slice none 0 0]) ?_ 0 _ rfl; (with_reducible repeat (first | refine qn ?_ _ | refine qd ?_ | refine qa ?_ _)); exact BK409.out) hb); have n2_ := qM (qP qF hb); clear BK391; clear BK409; clear HB; have BK391 := n0_; have BK409 := n1_; have HB := n2_; clear n0_ n1_ n2_; (try clear hb); (try clear hb2); (try clear hk); (try clear hi); obtain ⟨hcz59_0, hcz59_1, hcz59_2, hcz59_3, hcz59_4, hcz59_5, hcz59_6, hfz59_0, hfz59_1, hfz59_2, hfz59_3, hfz59_4, hfz59_5, hfz59_6⟩ := bx7 BK391.out) | (go_at_call 12; (with_reducible refine (cst_Len.calls a0_0 a0_1 a0_2 a0_3 _ _ l0_4 a0_5 _ _ l0_6 t411 _ ?side1 ?side2 ?side3 ?side4 A42.out).mono ?_); (case side1 => exact qC HR0_4.out qF); (case side2 => exact HC0_4.out); (case side3 => exact qC HR0_6.out qF); (case side4 => exact HC0_6.out); rintro e w60 ⟨rfl, hb⟩; have n0_ := qM (qb (g := gb391) qK hb); have n1_ := qM (qb (g := gb409) qK hb); have n2_ := qM (qP qF hb); clear BK391; clear BK409; clear HB; have BK391 := n0_; have BK409 := n1_; have HB := n2_; clear n0_ n1_ n2_; (try clear hb); (try clear hb2); (try clear hk); (try clear hi); obtain ⟨hcz61_0, hcz61_1, hcz61_2, hcz61_3, hcz61_4, hcz61_5, hcz61_6, hfz61_0, hfz61_1, hfz61_2, hfz61_3, hfz61_4, hfz61_5, hfz61_6⟩ := bx7 BK409.out) | (go_at_call 12; (refine (cst_Len.calls a0_0 a0_1 a0_2 a0_3 _ _ l0_4 a0_5 _ _ ([] : List (S26)) t412 _ ?side1 ?side2 ?side3 ?side4 A44.out).mono ?_); (case side1 => exact qC HR0_4.out qF); (case side2 => exact HC0_4.out); (case side3 => exact Kd.C_nil _ _); (case side4 => exact Nat.le_refl _); rintro e w62 ⟨rfl, hb⟩; have n0_ := qM (qb (g := gb391) qK hb); have n1_ := qM (qb (g := gb409) qK hb); have n2_ := qM (qP qF hb); clear BK391; clear BK409; clear HB; have BK391 := n0_; have BK409 := n1_; have HB := n2_; clear n0_ n1_ n2_; (try clear hb); (try clear hb2); (try clear hk); (try clear hi); obtain ⟨hcz63_0, hcz63_1, hcz63_2, hcz63_3, hcz63_4, hcz63_5, hcz63_6, hfz63_0, hfz63_1, hfz63_2, hfz63_3, hfz63_4, hfz63_5, hfz63_6⟩ := bx7 BK391.out) | (go_at_call 14; (with_reducible refine (cst_Size.calls a0_0 a0_1 a0_2 a0_3 _ _ l0_4 a0_5 _ _ l0_6 t413 _ ?side1 ?side2 ?side3 ?side4 A46.out).mono ?_); (case side1 => exact qC HR0_4.out qF); (case side2 => exact HC0_4.out); (case side3 => exact qC HR0_6.out qF); (case side4 => exact HC0_6.out); rintro e w64 ⟨rfl, hb⟩; have n0_ := qM (qb (g := gb391) qK hb); have n1_ := qM (qb (g := gb409) qK hb); have n2_ := qM (qP qF hb); clear BK391; clear BK409; clear HB; have BK391 := n0_; have BK409 := n1_; have HB := n2_; clear n0_ n1_ n2_; (try clear hb); (try clear hb2); (try clear hk); (try clear hi); obtain ⟨hcz65_0, hcz65_1, hcz65_2, hcz65_3, hcz65_4, hcz65_5, hcz65_6, hfz65_0, hfz65_1, hfz65_2, hfz65_3, hfz65_4, hfz65_5, hfz65_6⟩ := bx7 BK391.out) | (go_at_call 19; (with_reducible refine (cst_Clean.calls a0_0 a0_1 a0_2 a0_3 _ _ l0_4 a0_5 _ _ l0_6 t414 _ ?side1 ?side2 ?side3 ?side4 A48.out).mono ?_); (case side1 => exact qC HR0_4.out qF); (case side2 => exact HC0_4.out); (case side3 => exact qC HR0_6.out qF); (case side4 => exact HC0_6.out); rintro e w66 ⟨rfl, hb⟩; have n0_ := qM (qb (g := gb391) qK hb); have n1_ := qM (qb (g := gb409) qK hb); have n2_ := qM (qP qF hb); clear BK391; clear BK409; clear HB; have BK391 := n0_; have BK409 := n1_; have HB := n2_; clear n0_ n1_ n2_; (try clear hb); (try clear hb2); (try clear hk); (try clear hi); obtain ⟨hcz67_0, hcz67_1, hcz67_2, hcz67_3, hcz67_4, hcz67_5, hcz67_6, hfz67_0, hfz67_1, hfz67_2, hfz67_3, hfz67_4, hfz67_5, hfz67_6⟩ := bx7 BK409.out) | (go_at_call 19; (refine (cst_Clean.calls a0_0 a0_1 a0_2 a0_3 _ _ l0_4 a0_5 _ _ ([] : List (S26)) t415 _ ?side1 ?side2 ?side3 ?side4 A50.out).mono ?_); (case side1 => exact qC HR0_4.out qF); (case side2 => exact HC0_4.out); (case side3 => exact Kd.C_nil _ _); (case side4 => exact Nat.le_refl _); rintro e w68 ⟨rfl, hb⟩; have n0_ := qM (qb (g := gb391) qK hb); have n1_ := qM (qb (g := gb409) qK hb); have n2_ := qM (qP qF hb); clear BK391; clear BK409; clear HB; have BK391 := n0_; have BK409 := n1_; have HB := n2_; clear n0_ n1_ n2_; (try clear hb); (try clear hb2); (try clear hk); (try clear hi)) | (go_at_call 9; (with_reducible refine (arboristlaw42_knows.calls  t416 _ ?side1 A52.out).mono ?_); (case side1 => exact GW.below HGW.out qF); rintro e w69 ⟨rfl, hb⟩; have n0_ := qM (qb (g := gb391) qK hb); have n1_ := qM (qb (g := gb409) qK hb); have n2_ := qM (qP qF hb); clear BK391; clear BK409; clear HB; have BK391 := n0_; have BK409 := n1_; have HB := n2_; clear n0_ n1_ n2_; (try clear hb); (try clear hb2); (try clear hk); (try clear hi))); try go_wp2_with (first | ((with_reducible refine gate_dst (N := 11) rfl ?_); (try (refine gate_guard (by rfl) ?_; dsimp only)); refine box_event ?hg (N := 11) ?hd (cs := #[.int .i64 0, .int .i64 0, .int .i64 0, .int .i64 0, .slice none 0 0, .string (⟨#[]⟩ : ByteArray), .slice none 0 0]) (t := 26) ?hr ?_; (case hd => rfl); (case hg => rfl); (case hr => first | (go_simp; done) | (go_simp; rfl)); intro gb409 hg w54 hbox hb; have n0_ := qM (qb (g := gb391) qK hb); have n1_ := qM (qP qF hb); have n2_ := qM (hbox); have n3_ := qM ((by rw [hg]; exact (qZ qF) : w.heap.size ≤ gb409)); have n4_ := qM ((by rw [hg]; exact (qZ qF) : w.heap.size ≤ gb409)); have n5_ := qM ((by rw [hg]; exact Nat.ne_of_lt (ql (g := gb391) qK) : gb391 ≠ gb409)); have n6_ := qM ((by rw [hg]; exact Nat.ne_of_gt (ql (g := gb391) qK) : gb409 ≠ gb391)); clear BK391; clear HB; have BK391 := n0_; have HB := n1_; have BK409 := n2_; have GW409 := n3_; have GE409 := n4_; have NB391_409 := n5_; have NB409_391 := n6_; clear n0_ n1_ n2_ n3_ n4_ n5_ n6_; clear hb hbox hg; have hnb55 := NB409_391.out; have hnc55 := NB391_409.out; obtain ⟨hcz56_0, hcz56_1, hcz56_2, hcz56_3, hcz56_4, hcz56_5, hcz56_6, hfz56_0, hfz56_1, hfz56_2, hfz56_3, hfz56_4, hfz56_5, hfz56_6⟩ := bx7 BK409.out; obtain ⟨hcz57_0, hcz57_1, hcz57_2, hcz57_3, hcz57_4, hcz57_5, hcz57_6, hfz57_0, hfz57_1, hfz57_2, hfz57_3, hfz57_4, hfz57_5, hfz57_6⟩ := bx7 BK391.out) | (go_at_call 10; (with_reducible refine (cst_Text.calls a0_0 a0_1 a0_2 a0_3 _ _ l0_4 a0_5 _ _ l0_6 t410 _ ?side1 ?side2 ?side3 ?side4 A40.out).mono ?_); (case side1 => exact Kd.C_below HR0_4.out qF); (case side2 => exact HC0_4.out); (case side3 => exact Kd.C_below HR0_6.out qF); (case side4 => exact HC0_6.out); rintro e w58 ⟨rfl, hb⟩; have n0_ := qM (qb (g := gb391) (o := .cells #[.int .i64 a0_0, .int .i64 a0_1, .int .i64 a0_2, .int .i64 a0_3, .slice A0_4 l0_4.length c0_4, .string a0_5, .slice A0_6 l0_6.length c0_6] 26 (0, 0)) (by (with_reducible repeat (first | refine qn ?_ _ | refine qd ?_ | refine qa ?_ _)); refine qf ?_ NB391_409.out _; (with_reducible repeat (first | refine qn ?_ _ | refine qd ?_ | refine qa ?_ _)); refine qf ?_ NB391_409.out _; (with_reducible repeat (first | refine qn ?_ _ | refine qd ?_ | refine qa ?_ _)); refine qf ?_ NB391_409.out _; (with_reducible repeat (first | refine qn ?_ _ | refine qd ?_ | refine qa ?_ _)); refine qf ?_ NB391_409.out _; (with_reducible repeat (first | refine qn ?_ _ | refine qd ?_ | refine qa ?_ _)); refine qf ?_ NB391_409.out _; (with_reducible repeat (first | refine qn ?_ _ | refine qd ?_ | refine qa ?_ _)); refine qf ?_ NB391_409.out _; (with_reducible repeat (first | refine qn ?_ _ | refine qd ?_ | refine qa ?_ _)); refine qf ?_ NB391_409.out _; (with_reducible repeat (first | refine qn ?_ _ | refine qd ?_ | refine qa ?_ _)); refine qf ?_ NB391_409.out _; (with_reducible repeat (first | refine qn ?_ _ | refine qd ?_ | refine qa ?_ _)); exact BK391.out) hb); have n1_ := qM (qb (g := gb409) (o := .cells #[.int .i64 a0_0, .int .i64 a0_1, .int .i64 a0_2, .int .i64 a0_3, .slice A0_4 l0_4.length c0_4, .string a0_5, .slice none 0 0] 26 (0, 0)) (by (with_reducible repeat (first | refine qn ?_ _ | refine qd ?_ | refine qa ?_ _)); refine blk_put (cs := #[.int .i64 a0_0, .int .i64 a0_1, .int .i64 a0_2, .int .i64 a0_3, .slice A0_4 l0_4.length c0_4, .string a0_5, .slice A0_6 l0_6.length c0_6]) ?_ 6 _ rfl; (with_reducible repeat (first | refine qn ?_ _ | refine qd ?_ | refine qa ?_ _)); refine blk_put (cs := #[.int .i64 a0_0, .int .i64 a0_1, .int .i64 a0_2, .int .i64 a0_3, .slice A0_4 l0_4.length c0_4, .string a0_5, .slice none 0 0]) ?_ 6 _ rfl; (with_reducible repeat (first | refine qn ?_ _ | refine qd ?_ | refine qa ?_ _)); refine blk_put (cs := #[.int .i64 a0_0, .int .i64 a0_1, .int .i64 a0_2, .int .i64 a0_3, .slice A0_4 l0_4.length c0_4, .string (⟨#[]⟩ : ByteArray), .slice none 0 0]) ?_ 5 _ rfl; (with_reducible repeat (first | refine qn ?_ _ | refine qd ?_ | refine qa ?_ _)); refine blk_put (cs := #[.int .i64 a0_0, .int .i64 a0_1, .int .i64 a0_2, .int .i64 a0_3, .slice none 0 0, .string (⟨#[]⟩ : ByteArray), .slice none 0 0]) ?_ 4 _ rfl; (with_reducible repeat (first | refine qn ?_ _ | refine qd ?_ | refine qa ?_ _)); refine blk_put (cs := #[.int .i64 a0_0, .int .i64 a0_1, .int .i64 a0_2, .int .i64 0, .slice none 0 0, .string (⟨#[]⟩ : ByteArray), .slice none 0 0]) ?_ 3 _ rfl; (with_reducible repeat (first | refine qn ?_ _ | refine qd ?_ | refine qa ?_ _)); refine blk_put (cs := #[.int .i64 a0_0, .int .i64 a0_1, .int .i64 0, .int .i64 0, .slice none 0 0, .string (⟨#[]⟩ : ByteArray), .slice none 0 0]) ?_ 2 _ rfl; (with_reducible repeat (first | refine qn ?_ _ | refine qd ?_ | refine qa ?_ _)); refine blk_put (cs := #[.int .i64 a0_0, .int .i64 0, .int .i64 0, .int .i64 0, .slice none 0 0, .string (⟨#[]⟩ : ByteArray), .slice none 0 0]) ?_ 1 _ rfl; (with_reducible repeat (first | refine qn ?_ _ | refine qd ?_ | refine qa ?_ _)); refine blk_put (cs := #[.int .i64 0, .int .i64 0, .int .i64 0, .int .i64 0, .slice none 0 0, .string (⟨#[]⟩ : ByteArray), .slice none 0 0]) ?_ 0 _ rfl; (with_reducible repeat (first | refine qn ?_ _ | refine qd ?_ | refine qa ?_ _)); exact BK409.out) hb); have n2_ := qM (qP qF hb); clear BK391; clear BK409; clear HB; have BK391 := n0_; have BK409 := n1_; have HB := n2_; clear n0_ n1_ n2_; (try clear hb); (try clear hb2); (try clear hk); (try clear hi); obtain ⟨hcz59_0, hcz59_1, hcz59_2, hcz59_3, hcz59_4, hcz59_5, hcz59_6, hfz59_0, hfz59_1, hfz59_2, hfz59_3, hfz59_4, hfz59_5, hfz59_6⟩ := bx7 BK391.out) | (go_at_call 12; (with_reducible refine (cst_Len.calls a0_0 a0_1 a0_2 a0_3 _ _ l0_4 a0_5 _ _ l0_6 t411 _ ?side1 ?side2 ?side3 ?side4 A42.out).mono ?_); (case side1 => exact qC HR0_4.out qF); (case side2 => exact HC0_4.out); (case side3 => exact qC HR0_6.out qF); (case side4 => exact HC0_6.out); rintro e w60 ⟨rfl, hb⟩; have n0_ := qM (qb (g := gb391) qK hb); have n1_ := qM (qb (g := gb409) qK hb); have n2_ := qM (qP qF hb); clear BK391; clear BK409; clear HB; have BK391 := n0_; have BK409 := n1_; have HB := n2_; clear n0_ n1_ n2_; (try clear hb); (try clear hb2); (try clear hk); (try clear hi); obtain ⟨hcz61_0, hcz61_1, hcz61_2, hcz61_3, hcz61_4, hcz61_5, hcz61_6, hfz61_0, hfz61_1, hfz61_2, hfz61_3, hfz61_4, hfz61_5, hfz61_6⟩ := bx7 BK409.out) | (go_at_call 12; (refine (cst_Len.calls a0_0 a0_1 a0_2 a0_3 _ _ l0_4 a0_5 _ _ ([] : List (S26)) t412 _ ?side1 ?side2 ?side3 ?side4 A44.out).mono ?_); (case side1 => exact qC HR0_4.out qF); (case side2 => exact HC0_4.out); (case side3 => exact Kd.C_nil _ _); (case side4 => exact Nat.le_refl _); rintro e w62 ⟨rfl, hb⟩; have n0_ := qM (qb (g := gb391) qK hb); have n1_ := qM (qb (g := gb409) qK hb); have n2_ := qM (qP qF hb); clear BK391; clear BK409; clear HB; have BK391 := n0_; have BK409 := n1_; have HB := n2_; clear n0_ n1_ n2_; (try clear hb); (try clear hb2); (try clear hk); (try clear hi); obtain ⟨hcz63_0, hcz63_1, hcz63_2, hcz63_3, hcz63_4, hcz63_5, hcz63_6, hfz63_0, hfz63_1, hfz63_2, hfz63_3, hfz63_4, hfz63_5, hfz63_6⟩ := bx7 BK391.out) | (go_at_call 14; (with_reducible refine (cst_Size.calls a0_0 a0_1 a0_2 a0_3 _ _ l0_4 a0_5 _ _ l0_6 t413 _ ?side1 ?side2 ?side3 ?side4 A46.out).mono ?_); (case side1 => exact qC HR0_4.out qF); (case side2 => exact HC0_4.out); (case side3 => exact qC HR0_6.out qF); (case side4 => exact HC0_6.out); rintro e w64 ⟨rfl, hb⟩; have n0_ := qM (qb (g := gb391) qK hb); have n1_ := qM (qb (g := gb409) qK hb); have n2_ := qM (qP qF hb); clear BK391; clear BK409; clear HB; have BK391 := n0_; have BK409 := n1_; have HB := n2_; clear n0_ n1_ n2_; (try clear hb); (try clear hb2); (try clear hk); (try clear hi); obtain ⟨hcz65_0, hcz65_1, hcz65_2, hcz65_3, hcz65_4, hcz65_5, hcz65_6, hfz65_0, hfz65_1, hfz65_2, hfz65_3, hfz65_4, hfz65_5, hfz65_6⟩ := bx7 BK391.out) | (go_at_call 19; (with_reducible refine (cst_Clean.calls a0_0 a0_1 a0_2 a0_3 _ _ l0_4 a0_5 _ _ l0_6 t414 _ ?side1 ?side2 ?side3 ?side4 A48.out).mono ?_); (case side1 => exact qC HR0_4.out qF); (case side2 => exact HC0_4.out); (case side3 => exact qC HR0_6.out qF); (case side4 => exact HC0_6.out); rintro e w66 ⟨rfl, hb⟩; have n0_ := qM (qb (g := gb391) qK hb); have n1_ := qM (qb (g := gb409) qK hb); have n2_ := qM (qP qF hb); clear BK391; clear BK409; clear HB; have BK391 := n0_; have BK409 := n1_; have HB := n2_; clear n0_ n1_ n2_; (try clear hb); (try clear hb2); (try clear hk); (try clear hi); obtain ⟨hcz67_0, hcz67_1, hcz67_2, hcz67_3, hcz67_4, hcz67_5, hcz67_6, hfz67_0, hfz67_1, hfz67_2, hfz67_3, hfz67_4, hfz67_5, hfz67_6⟩ := bx7 BK409.out) | (go_at_call 19; (refine (cst_Clean.calls a0_0 a0_1 a0_2 a0_3 _ _ l0_4 a0_5 _ _ ([] : List (S26)) t415 _ ?side1 ?side2 ?side3 ?side4 A50.out).mono ?_); (case side1 => exact qC HR0_4.out qF); (case side2 => exact HC0_4.out); (case side3 => exact Kd.C_nil _ _); (case side4 => exact Nat.le_refl _); rintro e w68 ⟨rfl, hb⟩; have n0_ := qM (qb (g := gb391) qK hb); have n1_ := qM (qb (g := gb409) qK hb); have n2_ := qM (qP qF hb); clear BK391; clear BK409; clear HB; have BK391 := n0_; have BK409 := n1_; have HB := n2_; clear n0_ n1_ n2_; (try clear hb); (try clear hb2); (try clear hk); (try clear hi)) | (go_at_call 9; (with_reducible refine (arboristlaw42_knows.calls  t416 _ ?side1 A52.out).mono ?_); (case side1 => exact GW.below HGW.out qF); rintro e w69 ⟨rfl, hb⟩; have n0_ := qM (qb (g := gb391) qK hb); have n1_ := qM (qb (g := gb409) qK hb); have n2_ := qM (qP qF hb); clear BK391; clear BK409; clear HB; have BK391 := n0_; have BK409 := n1_; have HB := n2_; clear n0_ n1_ n2_; (try clear hb); (try clear hb2); (try clear hk); (try clear hi))))
              (go_ret); (exact ⟨qE, qF⟩)
             ·rw [if_neg c51] at H
              exact absurd H (by simp)
            ·replace c49 := Bool.eq_false_iff.mpr c49
             subst c49; (have H1 : (if (t414 == false) = true then ((arboristlaw42_knows.f).bind fun t417 => (some t417)) else (none)) = some r := by rw [if_neg (show ¬ (false = true) by decide)] at H; exact H); clear H; (have H := H1); clear H1; (by_cases c70 : (t414 == false) = true)
             ·rw [if_pos c70] at H
              (have c70b0 : (t414 == false) = true := c70); ((try (have c70b1 : decide (t414 = false) = true := by simpa using c70))); ((try (have c70b2 : (t414 == false) = true := by simpa using c70))); clear c70; (replace H := Option.bind_eq_some_iff.mp H); (obtain ⟨t417, A710, H⟩ := H); (replace H : (some t417) = some r := H); (have A71 := qM A710); clear A710; (obtain rfl := Option.some.inj H); (obtain ⟨hcz72_0, hcz72_1, hcz72_2, hcz72_3, hcz72_4, hcz72_5, hcz72_6, hfz72_0, hfz72_1, hfz72_2, hfz72_3, hfz72_4, hfz72_5, hfz72_6⟩ := bx7 BK391.out)
              go_wp2_with (first | ((with_reducible refine gate_dst (N := 11) rfl ?_); (try (refine gate_guard (by rfl) ?_; dsimp only)); refine box_event ?hg (N := 11) ?hd (cs := #[.int .i64 0, .int .i64 0, .int .i64 0, .int .i64 0, .slice none 0 0, .string (⟨#[]⟩ : ByteArray), .slice none 0 0]) (t := 26) ?hr ?_; (case hd => rfl); (case hg => rfl); (case hr => first | (go_simp; done) | (go_simp; rfl)); intro gb409 hg w73 hbox hb; have n0_ := qM (qb (g := gb391) qK hb); have n1_ := qM (qP qF hb); have n2_ := qM (hbox); have n3_ := qM ((by rw [hg]; exact (qZ qF) : w.heap.size ≤ gb409)); have n4_ := qM ((by rw [hg]; exact (qZ qF) : w.heap.size ≤ gb409)); have n5_ := qM ((by rw [hg]; exact Nat.ne_of_lt (ql (g := gb391) qK) : gb391 ≠ gb409)); have n6_ := qM ((by rw [hg]; exact Nat.ne_of_gt (ql (g := gb391) qK) : gb409 ≠ gb391)); clear BK391; clear HB; have BK391 := n0_; have HB := n1_; have BK409 := n2_; have GW409 := n3_; have GE409 := n4_; have NB391_409 := n5_; have NB409_391 := n6_; clear n0_ n1_ n2_ n3_ n4_ n5_ n6_; clear hb hbox hg; have hnb74 := NB409_391.out; have hnc74 := NB391_409.out; obtain ⟨hcz75_0, hcz75_1, hcz75_2, hcz75_3, hcz75_4, hcz75_5, hcz75_6, hfz75_0, hfz75_1, hfz75_2, hfz75_3, hfz75_4, hfz75_5, hfz75_6⟩ := bx7 BK409.out; obtain ⟨hcz76_0, hcz76_1, hcz76_2, hcz76_3, hcz76_4, hcz76_5, hcz76_6, hfz76_0, hfz76_1, hfz76_2, hfz76_3, hfz76_4, hfz76_5, hfz76_6⟩ := bx7 BK391.out) | (go_at_call 10; (with_reducible refine (cst_Text.calls a0_0 a0_1 a0_2 a0_3 _ _ l0_4 a0_5 _ _ l0_6 t410 _ ?side1 ?side2 ?side3 ?side4 A40.out).mono ?_); (case side1 => exact Kd.C_below HR0_4.out qF); (case side2 => exact HC0_4.out); (case side3 => exact Kd.C_below HR0_6.out qF); (case side4 => exact HC0_6.out); rintro e w77 ⟨rfl, hb⟩; have n0_ := qM (qb (g := gb391) (o := .cells #[.int .i64 a0_0, .int .i64 a0_1, .int .i64 a0_2, .int .i64 a0_3, .slice A0_4 l0_4.length c0_4, .string a0_5, .slice A0_6 l0_6.length c0_6] 26 (0, 0)) (by (with_reducible repeat (first | refine qn ?_ _ | refine qd ?_ | refine qa ?_ _)); refine qf ?_ NB391_409.out _; (with_reducible repeat (first | refine qn ?_ _ | refine qd ?_ | refine qa ?_ _)); refine qf ?_ NB391_409.out _; (with_reducible repeat (first | refine qn ?_ _ | refine qd ?_ | refine qa ?_ _)); refine qf ?_ NB391_409.out _; (with_reducible repeat (first | refine qn ?_ _ | refine qd ?_ | refine qa ?_ _)); refine qf ?_ NB391_409.out _; (with_reducible repeat (first | refine qn ?_ _ | refine qd ?_ | refine qa ?_ _)); refine qf ?_ NB391_409.out _; (with_reducible repeat (first | refine qn ?_ _ | refine qd ?_ | refine qa ?_ _)); refine qf ?_ NB391_409.out _; (with_reducible repeat (first | refine qn ?_ _ | refine qd ?_ | refine qa ?_ _)); refine qf ?_ NB391_409.out _; (with_reducible repeat (first | refine qn ?_ _ | refine qd ?_ | refine qa ?_ _)); refine qf ?_ NB391_409.out _; (with_reducible repeat (first | refine qn ?_ _ | refine qd ?_ | refine qa ?_ _)); exact BK391.out) hb); have n1_ := qM (qb (g := gb409) (o := .cells #[.int .i64 a0_0, .int .i64 a0_1, .int .i64 a0_2, .int .i64 a0_3, .slice A0_4 l0_4.length c0_4, .string a0_5, .slice none 0 0] 26 (0, 0)) (by (with_reducible repeat (first | refine qn ?_ _ | refine qd ?_ | refine qa ?_ _)); refine blk_put (cs := #[.int .i64 a0_0, .int .i64 a0_1, .int .i64 a0_2, .int .i64 a0_3, .slice A0_4 l0_4.length c0_4, .string a0_5, .slice A0_6 l0_6.length c0_6]) ?_ 6 _ rfl; (with_reducible repeat (first | refine qn ?_ _ | refine qd ?_ | refine qa ?_ _)); refine blk_put (cs := #[.int .i64 a0_0, .int .i64 a0_1, .int .i64 a0_2, .int .i64 a0_3, .slice A0_4 l0_4.length c0_4, .string a0_5, .slice none 0 0]) ?_ 6 _ rfl; (with_reducible repeat (first | refine qn ?_ _ | refine qd ?_ | refine qa ?_ _)); refine blk_put (cs := #[.int .i64 a0_0, .int .i64 a0_1, .int .i64 a0_2, .int .i64 a0_3, .slice A0_4 l0_4.length c0_4, .string (⟨#[]⟩ : ByteArray), .slice none 0 0]) ?_ 5 _ rfl; (with_reducible repeat (first | refine qn ?_ _ | refine qd ?_ | refine qa ?_ _)); refine blk_put (cs := #[.int .i64 a0_0, .int .i64 a0_1, .int .i64 a0_2, .int .i64 a0_3, .slice none 0 0, .string (⟨#[]⟩ : ByteArray), .slice none 0 0]) ?_ 4 _ rfl; (with_reducible repeat (first | refine qn ?_ _ | refine qd ?_ | refine qa ?_ _)); refine blk_put (cs := #[.int .i64 a0_0, .int .i64 a0_1, .int .i64 a0_2, .int .i64 0, .slice none 0 0, .string (⟨#[]⟩ : ByteArray), .slice none 0 0]) ?_ 3 _ rfl; (with_reducible repeat (first | refine qn ?_ _ | refine qd ?_ | refine qa ?_ _)); refine blk_put (cs := #[.int .i64 a0_0, .int .i64 a0_1, .int .i64 0, .int .i64 0, .slice none 0 0, .string (⟨#[]⟩ : ByteArray), .slice none 0 0]) ?_ 2 _ rfl; (with_reducible repeat (first | refine qn ?_ _ | refine qd ?_ | refine qa ?_ _)); refine blk_put (cs := #[.int .i64 a0_0, .int .i64 0, .int .i64 0, .int .i64 0, .slice none 0 0, .string (⟨#[]⟩ : ByteArray), .slice none 0 0]) ?_ 1 _ rfl; (with_reducible repeat (first | refine qn ?_ _ | refine qd ?_ | refine qa ?_ _)); refine blk_put (cs := #[.int .i64 0, .int .i64 0, .int .i64 0, .int .i64 0, .slice none 0 0, .string (⟨#[]⟩ : ByteArray), .slice none 0 0]) ?_ 0 _ rfl; (with_reducible repeat (first | refine qn ?_ _ | refine qd ?_ | refine qa ?_ _)); exact BK409.out) hb); have n2_ := qM (qP qF hb); clear BK391; clear BK409; clear HB; have BK391 := n0_; have BK409 := n1_; have HB := n2_; clear n0_ n1_ n2_; (try clear hb); (try clear hb2); (try clear hk); (try clear hi); obtain ⟨hcz78_0, hcz78_1, hcz78_2, hcz78_3, hcz78_4, hcz78_5, hcz78_6, hfz78_0, hfz78_1, hfz78_2, hfz78_3, hfz78_4, hfz78_5, hfz78_6⟩ := bx7 BK391.out) | (go_at_call 12; (with_reducible refine (cst_Len.calls a0_0 a0_1 a0_2 a0_3 _ _ l0_4 a0_5 _ _ l0_6 t411 _ ?side1 ?side2 ?side3 ?side4 A42.out).mono ?_); (case side1 => exact qC HR0_4.out qF); (case side2 => exact HC0_4.out); (case side3 => exact qC HR0_6.out qF); (case side4 => exact HC0_6.out); rintro e w79 ⟨rfl, hb⟩; have n0_ := qM (qb (g := gb391) qK hb); have n1_ := qM (qb (g := gb409) qK hb); have n2_ := qM (qP qF hb); clear BK391; clear BK409; clear HB; have BK391 := n0_; have BK409 := n1_; have HB := n2_; clear n0_ n1_ n2_; (try clear hb); (try clear hb2); (try clear hk); (try clear hi); obtain ⟨hcz80_0, hcz80_1, hcz80_2, hcz80_3, hcz80_4, hcz80_5, hcz80_6, hfz80_0, hfz80_1, hfz80_2, hfz80_3, hfz80_4, hfz80_5, hfz80_6⟩ := bx7 BK409.out) | (go_at_call 12; (refine (cst_Len.calls a0_0 a0_1 a0_2 a0_3 _ _ l0_4 a0_5 _ _ ([] : List (S26)) t412 _ ?side1 ?side2 ?side3 ?side4 A44.out).mono ?_); (case side1 => exact qC HR0_4.out qF); (case side2 => exact HC0_4.out); (case side3 => exact Kd.C_nil _ _); (case side4 => exact Nat.le_refl _); rintro e w81 ⟨rfl, hb⟩; have n0_ := qM (qb (g := gb391) qK hb); have n1_ := qM (qb (g := gb409) qK hb); have n2_ := qM (qP qF hb); clear BK391; clear BK409; clear HB; have BK391 := n0_; have BK409 := n1_; have HB := n2_; clear n0_ n1_ n2_; (try clear hb); (try clear hb2); (try clear hk); (try clear hi); obtain ⟨hcz82_0, hcz82_1, hcz82_2, hcz82_3, hcz82_4, hcz82_5, hcz82_6, hfz82_0, hfz82_1, hfz82_2, hfz82_3, hfz82_4, hfz82_5, hfz82_6⟩ := bx7 BK391.out) | (go_at_call 14; (with_reducible refine (cst_Size.calls a0_0 a0_1 a0_2 a0_3 _ _ l0_4 a0_5 _ _ l0_6 t413 _ ?side1 ?side2 ?side3 ?side4 A46.out).mono ?_); (case side1 => exact qC HR0_4.out qF); (case side2 => exact HC0_4.out); (case side3 => exact qC HR0_6.out qF); (case side4 => exact HC0_6.out); rintro e w83 ⟨rfl, hb⟩; have n0_ := qM (qb (g := gb391) qK hb); have n1_ := qM (qb (g := gb409) qK hb); have n2_ := qM (qP qF hb); clear BK391; clear BK409; clear HB; have BK391 := n0_; have BK409 := n1_; have HB := n2_; clear n0_ n1_ n2_; (try clear hb); (try clear hb2); (try clear hk); (try clear hi); obtain ⟨hcz84_0, hcz84_1, hcz84_2, hcz84_3, hcz84_4, hcz84_5, hcz84_6, hfz84_0, hfz84_1, hfz84_2, hfz84_3, hfz84_4, hfz84_5, hfz84_6⟩ := bx7 BK391.out) | (go_at_call 19; (with_reducible refine (cst_Clean.calls a0_0 a0_1 a0_2 a0_3 _ _ l0_4 a0_5 _ _ l0_6 t414 _ ?side1 ?side2 ?side3 ?side4 A48.out).mono ?_); (case side1 => exact qC HR0_4.out qF); (case side2 => exact HC0_4.out); (case side3 => exact qC HR0_6.out qF); (case side4 => exact HC0_6.out); rintro e w85 ⟨rfl, hb⟩; have n0_ := qM (qb (g := gb391) qK hb); have n1_ := qM (qb (g := gb409) qK hb); have n2_ := qM (qP qF hb); clear BK391; clear BK409; clear HB; have BK391 := n0_; have BK409 := n1_; have HB := n2_; clear n0_ n1_ n2_; (try clear hb); (try clear hb2); (try clear hk); (try clear hi)) | (go_at_call 9; (with_reducible refine (arboristlaw42_knows.calls  t417 _ ?side1 A71.out).mono ?_); (case side1 => exact GW.below HGW.out qF); rintro e w86 ⟨rfl, hb⟩; have n0_ := qM (qb (g := gb391) qK hb); have n1_ := qM (qb (g := gb409) qK hb); have n2_ := qM (qP qF hb); clear BK391; clear BK409; clear HB; have BK391 := n0_; have BK409 := n1_; have HB := n2_; clear n0_ n1_ n2_; (try clear hb); (try clear hb2); (try clear hk); (try clear hi)))
              repeat (go_quiet (first | ((with_reducible refine gate_dst (N := 11) rfl ?_); (try (refine gate_guard (by rfl) ?_; dsimp only)); refine box_event ?hg (N := 11) ?hd (cs := #[.int .i64 0, .int .i64 0, .int .i64 0, .int .i64 0, .slice none 0 0, .string (⟨#[]⟩ : ByteArray), .slice none 0 0]) (t := 26) ?hr ?_; (case hd => rfl); (case hg => rfl); (case hr => first | (go_simp; done) | (go_simp; rfl)); intro gb409 hg w73 hbox hb; have n0_ := qM (qb (g := gb391) qK hb); have n1_ := qM (qP qF hb); have n2_ := qM (hbox); have n3_ := qM ((by rw [hg]; exact (qZ qF) : w.heap.size ≤ gb409)); have n4_ := qM ((by rw [hg]; exact (qZ qF) : w.heap.size ≤ gb409)); have n5_ := qM ((by rw [hg]; exact Nat.ne_of_lt (ql (g := gb391) qK) : gb391 ≠ gb409)); have n6_ := qM ((by rw [hg]; exact Nat.ne_of_gt (ql (g := gb391) qK) : gb409 ≠ gb391)); clear BK391; clear HB; have BK391 := n0_; have HB := n1_; have BK409 := n2_; have GW409 := n3_; have GE409 := n4_; have NB391_409 := n5_; have NB409_391 := n6_; clear n0_ n1_ n2_ n3_ n4_ n5_ n6_; clear hb hbox hg; have hnb74 := NB409_391.out; have hnc74 := NB391_409.out; obtain ⟨hcz75_0, hcz75_1, hcz75_2, hcz75_3, hcz75_4, hcz75_5, hcz75_6, hfz75_0, hfz75_1, hfz75_2, hfz75_3, hfz75_4, hfz75_5, hfz75_6⟩ := bx7 BK409.out; obtain ⟨hcz76_0, hcz76_1, hcz76_2, hcz76_3, hcz76_4, hcz76_5, hcz76_6, hfz76_0, hfz76_1, hfz76_2, hfz76_3, hfz76_4, hfz76_5, hfz76_6⟩ := bx7 BK391.out) | (go_at_call 10; (with_reducible refine (cst_Text.calls a0_0 a0_1 a0_2 a0_3 _ _ l0_4 a0_5 _ _ l0_6 t410 _ ?side1 ?side2 ?side3 ?side4 A40.out).mono ?_); (case side1 => exact Kd.C_below HR0_4.out qF); (case side2 => exact HC0_4.out); (case side3 => exact Kd.C_below HR0_6.out qF); (case side4 => exact HC0_6.out); rintro e w77 ⟨rfl, hb⟩; have n0_ := qM (qb (g := gb391) (o := .cells #[.int .i64 a0_0, .int .i64 a0_1, .int .i64 a0_2, .int .i64 a0_3, .slice A0_4 l0_4.length c0_4, .string a0_5, .slice A0_6 l0_6.length c0_6] 26 (0, 0)) (by (with_reducible repeat (first | refine qn ?_ _ | refine qd ?_ | refine qa ?_ _)); refine qf ?_ NB391_409.out _; (with_reducible repeat (first | refine qn ?_ _ | refine qd ?_ | refine qa ?_ _)); refine qf ?_ NB391_409.out _; (with_reducible repeat (first | refine qn ?_ _ | refine qd ?_ | refine qa ?_ _)); refine qf ?_ NB391_409.out _; (with_reducible repeat (first | refine qn ?_ _ | refine qd ?_ | refine qa ?_ _)); refine qf ?_ NB391_409.out _; (with_reducible repeat (first | refine qn ?_ _ | refine qd ?_ | refine qa ?_ _)); refine qf ?_ NB391_409.out _; (with_reducible repeat (first | refine qn ?_ _ | refine qd ?_ | refine qa ?_ _)); refine qf ?_ NB391_409.out _; (with_reducible repeat (first | refine qn ?_ _ | refine qd ?_ | refine qa ?_ _)); refine qf ?_ NB391_409.out _; (with_reducible repeat (first | refine qn ?_ _ | refine qd ?_ | refine qa ?_ _)); refine qf ?_ NB391_409.out _; (with_reducible repeat (first | refine qn ?_ _ | refine qd ?_ | refine qa ?_ _)); exact BK391.out) hb); have n1_ := qM (qb (g := gb409) (o := .cells #[.int .i64 a0_0, .int .i64 a0_1, .int .i64 a0_2, .int .i64 a0_3, .slice A0_4 l0_4.length c0_4, .string a0_5, .slice none 0 0] 26 (0, 0)) (by (with_reducible repeat (first | refine qn ?_ _ | refine qd ?_ | refine qa ?_ _)); refine blk_put (cs := #[.int .i64 a0_0, .int .i64 a0_1, .int .i64 a0_2, .int .i64 a0_3, .slice A0_4 l0_4.length c0_4, .string a0_5, .slice A0_6 l0_6.length c0_6]) ?_ 6 _ rfl; (with_reducible repeat (first | refine qn ?_ _ | refine qd ?_ | refine qa ?_ _)); refine blk_put (cs := #[.int .i64 a0_0, .int .i64 a0_1, .int .i64 a0_2, .int .i64 a0_3, .slice A0_4 l0_4.length c0_4, .string a0_5, .slice none 0 0]) ?_ 6 _ rfl; (with_reducible repeat (first | refine qn ?_ _ | refine qd ?_ | refine qa ?_ _)); refine blk_put (cs := #[.int .i64 a0_0, .int .i64 a0_1, .int .i64 a0_2, .int .i64 a0_3, .slice A0_4 l0_4.length c0_4, .string (⟨#[]⟩ : ByteArray), .slice none 0 0]) ?_ 5 _ rfl; (with_reducible repeat (first | refine qn ?_ _ | refine qd ?_ | refine qa ?_ _)); refine blk_put (cs := #[.int .i64 a0_0, .int .i64 a0_1, .int .i64 a0_2, .int .i64 a0_3, .slice none 0 0, .string (⟨#[]⟩ : ByteArray), .slice none 0 0]) ?_ 4 _ rfl; (with_reducible repeat (first | refine qn ?_ _ | refine qd ?_ | refine qa ?_ _)); refine blk_put (cs := #[.int .i64 a0_0, .int .i64 a0_1, .int .i64 a0_2, .int .i64 0, .slice none 0 0, .string (⟨#[]⟩ : ByteArray), .slice none 0 0]) ?_ 3 _ rfl; (with_reducible repeat (first | refine qn ?_ _ | refine qd ?_ | refine qa ?_ _)); refine blk_put (cs := #[.int .i64 a0_0, .int .i64 a0_1, .int .i64 0, .int .i64 0, .slice none 0 0, .string (⟨#[]⟩ : ByteArray), .slice none 0 0]) ?_ 2 _ rfl; (with_reducible repeat (first | refine qn ?_ _ | refine qd ?_ | refine qa ?_ _)); refine blk_put (cs := #[.int .i64 a0_0, .int .i64 0, .int .i64 0, .int .i64 0, .slice none 0 0, .string (⟨#[]⟩ : ByteArray), .slice none 0 0]) ?_ 1 _ rfl; (with_reducible repeat (first | refine qn ?_ _ | refine qd ?_ | refine qa ?_ _)); refine blk_put (cs := #[.int .i64 0, .int .i64 0, .int .i64 0, .int .i64 0, .slice none 0 0, .string (⟨#[]⟩ : ByteArray), .slice none 0 0]) ?_ 0 _ rfl; (with_reducible repeat (first | refine qn ?_ _ | refine qd ?_ | refine qa ?_ _)); exact BK409.out) hb); have n2_ := qM (qP qF hb); clear BK391; clear BK409; clear HB; have BK391 := n0_; have BK409 := n1_; have HB := n2_; clear n0_ n1_ n2_; (try clear hb); (try clear hb2); (try clear hk); (try clear hi); obtain ⟨hcz78_0, hcz78_1, hcz78_2, hcz78_3, hcz78_4, hcz78_5, hcz78_6, hfz78_0, hfz78_1, hfz78_2, hfz78_3, hfz78_4, hfz78_5, hfz78_6⟩ := bx7 BK391.out) | (go_at_call 12; (with_reducible refine (cst_Len.calls a0_0 a0_1 a0_2 a0_3 _ _ l0_4 a0_5 _ _ l0_6 t411 _ ?side1 ?side2 ?side3 ?side4 A42.out).mono ?_); (case side1 => exact qC HR0_4.out qF); (case side2 => exact HC0_4.out); (case side3 => exact qC HR0_6.out qF); (case side4 => exact HC0_6.out); rintro e w79 ⟨rfl, hb⟩; have n0_ := qM (qb (g := gb391) qK hb); have n1_ := qM (qb (g := gb409) qK hb); have n2_ := qM (qP qF hb); clear BK391; clear BK409; clear HB; have BK391 := n0_; have BK409 := n1_; have HB := n2_; clear n0_ n1_ n2_; (try clear hb); (try clear hb2); (try clear hk); (try clear hi); obtain ⟨hcz80_0, hcz80_1, hcz80_2, hcz80_3, hcz80_4, hcz80_5, hcz80_6, hfz80_0, hfz80_1, hfz80_2, hfz80_3, hfz80_4, hfz80_5, hfz80_6⟩ := bx7 BK409.out) | (go_at_call 12; (refine (cst_Len.calls a0_0 a0_1 a0_2 a0_3 _ _ l0_4 a0_5 _ _ ([] : List (S26)) t412 _ ?side1 ?side2 ?side3 ?side4 A44.out).mono ?_); (case side1 => exact qC HR0_4.out qF); (case side2 => exact HC0_4.out); (case side3 => exact Kd.C_nil _ _); (case side4 => exact Nat.le_refl _); rintro e w81 ⟨rfl, hb⟩; have n0_ := qM (qb (g := gb391) qK hb); have n1_ := qM (qb (g := gb409) qK hb); have n2_ := qM (qP qF hb); clear BK391; clear BK409; clear HB; have BK391 := n0_; have BK409 := n1_; have HB := n2_; clear n0_ n1_ n2_; (try clear hb); (try clear hb2); (try clear hk); (try clear hi); obtain ⟨hcz82_0, hcz82_1, hcz82_2, hcz82_3, hcz82_4, hcz82_5, hcz82_6, hfz82_0, hfz82_1, hfz82_2, hfz82_3, hfz82_4, hfz82_5, hfz82_6⟩ := bx7 BK391.out) | (go_at_call 14; (with_reducible refine (cst_Size.calls a0_0 a0_1 a0_2 a0_3 _ _ l0_4 a0_5 _ _ l0_6 t413 _ ?side1 ?side2 ?side3 ?side4 A46.out).mono ?_); (case side1 => exact qC HR0_4.out qF); (case side2 => exact HC0_4.out); (case side3 => exact qC HR0_6.out qF); (case side4 => exact HC0_6.out); rintro e w83 ⟨rfl, hb⟩; have n0_ := qM (qb (g := gb391) qK hb); have n1_ := qM (qb (g := gb409) qK hb); have n2_ := qM (qP qF hb); clear BK391; clear BK409; clear HB; have BK391 := n0_; have BK409 := n1_; have HB := n2_; clear n0_ n1_ n2_; (try clear hb); (try clear hb2); (try clear hk); (try clear hi); obtain ⟨hcz84_0, hcz84_1, hcz84_2, hcz84_3, hcz84_4, hcz84_5, hcz84_6, hfz84_0, hfz84_1, hfz84_2, hfz84_3, hfz84_4, hfz84_5, hfz84_6⟩ := bx7 BK391.out) | (go_at_call 19; (with_reducible refine (cst_Clean.calls a0_0 a0_1 a0_2 a0_3 _ _ l0_4 a0_5 _ _ l0_6 t414 _ ?side1 ?side2 ?side3 ?side4 A48.out).mono ?_); (case side1 => exact qC HR0_4.out qF); (case side2 => exact HC0_4.out); (case side3 => exact qC HR0_6.out qF); (case side4 => exact HC0_6.out); rintro e w85 ⟨rfl, hb⟩; have n0_ := qM (qb (g := gb391) qK hb); have n1_ := qM (qb (g := gb409) qK hb); have n2_ := qM (qP qF hb); clear BK391; clear BK409; clear HB; have BK391 := n0_; have BK409 := n1_; have HB := n2_; clear n0_ n1_ n2_; (try clear hb); (try clear hb2); (try clear hk); (try clear hi)) | (go_at_call 9; (with_reducible refine (arboristlaw42_knows.calls  t417 _ ?side1 A71.out).mono ?_); (case side1 => exact GW.below HGW.out qF); rintro e w86 ⟨rfl, hb⟩; have n0_ := qM (qb (g := gb391) qK hb); have n1_ := qM (qb (g := gb409) qK hb); have n2_ := qM (qP qF hb); clear BK391; clear BK409; clear HB; have BK391 := n0_; have BK409 := n1_; have HB := n2_; clear n0_ n1_ n2_; (try clear hb); (try clear hb2); (try clear hk); (try clear hi))); try go_wp2_with (first | ((with_reducible refine gate_dst (N := 11) rfl ?_); (try (refine gate_guard (by rfl) ?_; dsimp only)); refine box_event ?hg (N := 11) ?hd (cs := #[.int .i64 0, .int .i64 0, .int .i64 0, .int .i64 0, .slice none 0 0, .string (⟨#[]⟩ : ByteArray), .slice none 0 0]) (t := 26) ?hr ?_; (case hd => rfl); (case hg => rfl); (case hr => first | (go_simp; done) | (go_simp; rfl)); intro gb409 hg w73 hbox hb; have n0_ := qM (qb (g := gb391) qK hb); have n1_ := qM (qP qF hb); have n2_ := qM (hbox); have n3_ := qM ((by rw [hg]; exact (qZ qF) : w.heap.size ≤ gb409)); have n4_ := qM ((by rw [hg]; exact (qZ qF) : w.heap.size ≤ gb409)); have n5_ := qM ((by rw [hg]; exact Nat.ne_of_lt (ql (g := gb391) qK) : gb391 ≠ gb409)); have n6_ := qM ((by rw [hg]; exact Nat.ne_of_gt (ql (g := gb391) qK) : gb409 ≠ gb391)); clear BK391; clear HB; have BK391 := n0_; have HB := n1_; have BK409 := n2_; have GW409 := n3_; have GE409 := n4_; have NB391_409 := n5_; have NB409_391 := n6_; clear n0_ n1_ n2_ n3_ n4_ n5_ n6_; clear hb hbox hg; have hnb74 := NB409_391.out; have hnc74 := NB391_409.out; obtain ⟨hcz75_0, hcz75_1, hcz75_2, hcz75_3, hcz75_4, hcz75_5, hcz75_6, hfz75_0, hfz75_1, hfz75_2, hfz75_3, hfz75_4, hfz75_5, hfz75_6⟩ := bx7 BK409.out; obtain ⟨hcz76_0, hcz76_1, hcz76_2, hcz76_3, hcz76_4, hcz76_5, hcz76_6, hfz76_0, hfz76_1, hfz76_2, hfz76_3, hfz76_4, hfz76_5, hfz76_6⟩ := bx7 BK391.out) | (go_at_call 10; (with_reducible refine (cst_Text.calls a0_0 a0_1 a0_2 a0_3 _ _ l0_4 a0_5 _ _ l0_6 t410 _ ?side1 ?side2 ?side3 ?side4 A40.out).mono ?_); (case side1 => exact Kd.C_below HR0_4.out qF); (case side2 => exact HC0_4.out); (case side3 => exact Kd.C_below HR0_6.out qF); (case side4 => exact HC0_6.out); rintro e w77 ⟨rfl, hb⟩; have n0_ := qM (qb (g := gb391) (o := .cells #[.int .i64 a0_0, .int .i64 a0_1, .int .i64 a0_2, .int .i64 a0_3, .slice A0_4 l0_4.length c0_4, .string a0_5, .slice A0_6 l0_6.length c0_6] 26 (0, 0)) (by (with_reducible repeat (first | refine qn ?_ _ | refine qd ?_ | refine qa ?_ _)); refine qf ?_ NB391_409.out _; (with_reducible repeat (first | refine qn ?_ _ | refine qd ?_ | refine qa ?_ _)); refine qf ?_ NB391_409.out _; (with_reducible repeat (first | refine qn ?_ _ | refine qd ?_ | refine qa ?_ _)); refine qf ?_ NB391_409.out _; (with_reducible repeat (first | refine qn ?_ _ | refine qd ?_ | refine qa ?_ _)); refine qf ?_ NB391_409.out _; (with_reducible repeat (first | refine qn ?_ _ | refine qd ?_ | refine qa ?_ _)); refine qf ?_ NB391_409.out _; (with_reducible repeat (first | refine qn ?_ _ | refine qd ?_ | refine qa ?_ _)); refine qf ?_ NB391_409.out _; (with_reducible repeat (first | refine qn ?_ _ | refine qd ?_ | refine qa ?_ _)); refine qf ?_ NB391_409.out _; (with_reducible repeat (first | refine qn ?_ _ | refine qd ?_ | refine qa ?_ _)); refine qf ?_ NB391_409.out _; (with_reducible repeat (first | refine qn ?_ _ | refine qd ?_ | refine qa ?_ _)); exact BK391.out) hb); have n1_ := qM (qb (g := gb409) (o := .cells #[.int .i64 a0_0, .int .i64 a0_1, .int .i64 a0_2, .int .i64 a0_3, .slice A0_4 l0_4.length c0_4, .string a0_5, .slice none 0 0] 26 (0, 0)) (by (with_reducible repeat (first | refine qn ?_ _ | refine qd ?_ | refine qa ?_ _)); refine blk_put (cs := #[.int .i64 a0_0, .int .i64 a0_1, .int .i64 a0_2, .int .i64 a0_3, .slice A0_4 l0_4.length c0_4, .string a0_5, .slice A0_6 l0_6.length c0_6]) ?_ 6 _ rfl; (with_reducible repeat (first | refine qn ?_ _ | refine qd ?_ | refine qa ?_ _)); refine blk_put (cs := #[.int .i64 a0_0, .int .i64 a0_1, .int .i64 a0_2, .int .i64 a0_3, .slice A0_4 l0_4.length c0_4, .string a0_5, .slice none 0 0]) ?_ 6 _ rfl; (with_reducible repeat (first | refine qn ?_ _ | refine qd ?_ | refine qa ?_ _)); refine blk_put (cs := #[.int .i64 a0_0, .int .i64 a0_1, .int .i64 a0_2, .int .i64 a0_3, .slice A0_4 l0_4.length c0_4, .string (⟨#[]⟩ : ByteArray), .slice none 0 0]) ?_ 5 _ rfl; (with_reducible repeat (first | refine qn ?_ _ | refine qd ?_ | refine qa ?_ _)); refine blk_put (cs := #[.int .i64 a0_0, .int .i64 a0_1, .int .i64 a0_2, .int .i64 a0_3, .slice none 0 0, .string (⟨#[]⟩ : ByteArray), .slice none 0 0]) ?_ 4 _ rfl; (with_reducible repeat (first | refine qn ?_ _ | refine qd ?_ | refine qa ?_ _)); refine blk_put (cs := #[.int .i64 a0_0, .int .i64 a0_1, .int .i64 a0_2, .int .i64 0, .slice none 0 0, .string (⟨#[]⟩ : ByteArray), .slice none 0 0]) ?_ 3 _ rfl; (with_reducible repeat (first | refine qn ?_ _ | refine qd ?_ | refine qa ?_ _)); refine blk_put (cs := #[.int .i64 a0_0, .int .i64 a0_1, .int .i64 0, .int .i64 0, .slice none 0 0, .string (⟨#[]⟩ : ByteArray), .slice none 0 0]) ?_ 2 _ rfl; (with_reducible repeat (first | refine qn ?_ _ | refine qd ?_ | refine qa ?_ _)); refine blk_put (cs := #[.int .i64 a0_0, .int .i64 0, .int .i64 0, .int .i64 0, .slice none 0 0, .string (⟨#[]⟩ : ByteArray), .slice none 0 0]) ?_ 1 _ rfl; (with_reducible repeat (first | refine qn ?_ _ | refine qd ?_ | refine qa ?_ _)); refine blk_put (cs := #[.int .i64 0, .int .i64 0, .int .i64 0, .int .i64 0, .slice none 0 0, .string (⟨#[]⟩ : ByteArray), .slice none 0 0]) ?_ 0 _ rfl; (with_reducible repeat (first | refine qn ?_ _ | refine qd ?_ | refine qa ?_ _)); exact BK409.out) hb); have n2_ := qM (qP qF hb); clear BK391; clear BK409; clear HB; have BK391 := n0_; have BK409 := n1_; have HB := n2_; clear n0_ n1_ n2_; (try clear hb); (try clear hb2); (try clear hk); (try clear hi); obtain ⟨hcz78_0, hcz78_1, hcz78_2, hcz78_3, hcz78_4, hcz78_5, hcz78_6, hfz78_0, hfz78_1, hfz78_2, hfz78_3, hfz78_4, hfz78_5, hfz78_6⟩ := bx7 BK391.out) | (go_at_call 12; (with_reducible refine (cst_Len.calls a0_0 a0_1 a0_2 a0_3 _ _ l0_4 a0_5 _ _ l0_6 t411 _ ?side1 ?side2 ?side3 ?side4 A42.out).mono ?_); (case side1 => exact qC HR0_4.out qF); (case side2 => exact HC0_4.out); (case side3 => exact qC HR0_6.out qF); (case side4 => exact HC0_6.out); rintro e w79 ⟨rfl, hb⟩; have n0_ := qM (qb (g := gb391) qK hb); have n1_ := qM (qb (g := gb409) qK hb); have n2_ := qM (qP qF hb); clear BK391; clear BK409; clear HB; have BK391 := n0_; have BK409 := n1_; have HB := n2_; clear n0_ n1_ n2_; (try clear hb); (try clear hb2); (try clear hk); (try clear hi); obtain ⟨hcz80_0, hcz80_1, hcz80_2, hcz80_3, hcz80_4, hcz80_5, hcz80_6, hfz80_0, hfz80_1, hfz80_2, hfz80_3, hfz80_4, hfz80_5, hfz80_6⟩ := bx7 BK409.out) | (go_at_call 12; (refine (cst_Len.calls a0_0 a0_1 a0_2 a0_3 _ _ l0_4 a0_5 _ _ ([] : List (S26)) t412 _ ?side1 ?side2 ?side3 ?side4 A44.out).mono ?_); (case side1 => exact qC HR0_4.out qF); (case side2 => exact HC0_4.out); (case side3 => exact Kd.C_nil _ _); (case side4 => exact Nat.le_refl _); rintro e w81 ⟨rfl, hb⟩; have n0_ := qM (qb (g := gb391) qK hb); have n1_ := qM (qb (g := gb409) qK hb); have n2_ := qM (qP qF hb); clear BK391; clear BK409; clear HB; have BK391 := n0_; have BK409 := n1_; have HB := n2_; clear n0_ n1_ n2_; (try clear hb); (try clear hb2); (try clear hk); (try clear hi); obtain ⟨hcz82_0, hcz82_1, hcz82_2, hcz82_3, hcz82_4, hcz82_5, hcz82_6, hfz82_0, hfz82_1, hfz82_2, hfz82_3, hfz82_4, hfz82_5, hfz82_6⟩ := bx7 BK391.out) | (go_at_call 14; (with_reducible refine (cst_Size.calls a0_0 a0_1 a0_2 a0_3 _ _ l0_4 a0_5 _ _ l0_6 t413 _ ?side1 ?side2 ?side3 ?side4 A46.out).mono ?_); (case side1 => exact qC HR0_4.out qF); (case side2 => exact HC0_4.out); (case side3 => exact qC HR0_6.out qF); (case side4 => exact HC0_6.out); rintro e w83 ⟨rfl, hb⟩; have n0_ := qM (qb (g := gb391) qK hb); have n1_ := qM (qb (g := gb409) qK hb); have n2_ := qM (qP qF hb); clear BK391; clear BK409; clear HB; have BK391 := n0_; have BK409 := n1_; have HB := n2_; clear n0_ n1_ n2_; (try clear hb); (try clear hb2); (try clear hk); (try clear hi); obtain ⟨hcz84_0, hcz84_1, hcz84_2, hcz84_3, hcz84_4, hcz84_5, hcz84_6, hfz84_0, hfz84_1, hfz84_2, hfz84_3, hfz84_4, hfz84_5, hfz84_6⟩ := bx7 BK391.out) | (go_at_call 19; (with_reducible refine (cst_Clean.calls a0_0 a0_1 a0_2 a0_3 _ _ l0_4 a0_5 _ _ l0_6 t414 _ ?side1 ?side2 ?side3 ?side4 A48.out).mono ?_); (case side1 => exact qC HR0_4.out qF); (case side2 => exact HC0_4.out); (case side3 => exact qC HR0_6.out qF); (case side4 => exact HC0_6.out); rintro e w85 ⟨rfl, hb⟩; have n0_ := qM (qb (g := gb391) qK hb); have n1_ := qM (qb (g := gb409) qK hb); have n2_ := qM (qP qF hb); clear BK391; clear BK409; clear HB; have BK391 := n0_; have BK409 := n1_; have HB := n2_; clear n0_ n1_ n2_; (try clear hb); (try clear hb2); (try clear hk); (try clear hi)) | (go_at_call 9; (with_reducible refine (arboristlaw42_knows.calls  t417 _ ?side1 A71.out).mono ?_); (case side1 => exact GW.below HGW.out qF); rintro e w86 ⟨rfl, hb⟩; have n0_ := qM (qb (g := gb391) qK hb); have n1_ := qM (qb (g := gb409) qK hb); have n2_ := qM (qP qF hb); clear BK391; clear BK409; clear HB; have BK391 := n0_; have BK409 := n1_; have HB := n2_; clear n0_ n1_ n2_; (try clear hb); (try clear hb2); (try clear hk); (try clear hi))))
              (go_ret); (exact ⟨qE, qF⟩)
             ·rw [if_neg c70] at H
              exact absurd H (by simp)
           ·rw [if_neg c47] at H
            exact absurd H (by simp)
          ·rw [if_neg c45] at H
           exact absurd H (by simp)
         ·rw [if_neg c43] at H
          exact absurd H (by simp)
        ·rw [if_neg c41] at H
         (have c41b0 : (t410.toList == x4_1.toList) = false := beq_eq_false_iff_ne.mpr c41); (have c41b1 : (t410.toList != x4_1.toList) = true := bne_iff_ne.mpr c41); (obtain rfl := Option.some.inj H); (obtain ⟨hcz87_0, hcz87_1, hcz87_2, hcz87_3, hcz87_4, hcz87_5, hcz87_6, hfz87_0, hfz87_1, hfz87_2, hfz87_3, hfz87_4, hfz87_5, hfz87_6⟩ := bx7 BK391.out)
         go_wp2_with (first | ((with_reducible refine gate_dst (N := 11) rfl ?_); (try (refine gate_guard (by rfl) ?_; dsimp only)); refine box_event ?hg (N := 11) ?hd (cs := #[.int .i64 0, .int .i64 0, .int .i64 0, .int .i64 0, .slice none 0 0, .string (⟨#[]⟩ : ByteArray), .slice none 0 0]) (t := 26) ?hr ?_; (case hd => rfl); (case hg => rfl); (case hr => first | (go_simp; done) | (go_simp; rfl)); intro gb409 hg w88 hbox hb; have n0_ := qM (qb (g := gb391) qK hb); have n1_ := qM (qP qF hb); have n2_ := qM (hbox); have n3_ := qM ((by rw [hg]; exact (qZ qF) : w.heap.size ≤ gb409)); have n4_ := qM ((by rw [hg]; exact (qZ qF) : w.heap.size ≤ gb409)); have n5_ := qM ((by rw [hg]; exact Nat.ne_of_lt (ql (g := gb391) qK) : gb391 ≠ gb409)); have n6_ := qM ((by rw [hg]; exact Nat.ne_of_gt (ql (g := gb391) qK) : gb409 ≠ gb391)); clear BK391; clear HB; have BK391 := n0_; have HB := n1_; have BK409 := n2_; have GW409 := n3_; have GE409 := n4_; have NB391_409 := n5_; have NB409_391 := n6_; clear n0_ n1_ n2_ n3_ n4_ n5_ n6_; clear hb hbox hg; have hnb89 := NB409_391.out; have hnc89 := NB391_409.out; obtain ⟨hcz90_0, hcz90_1, hcz90_2, hcz90_3, hcz90_4, hcz90_5, hcz90_6, hfz90_0, hfz90_1, hfz90_2, hfz90_3, hfz90_4, hfz90_5, hfz90_6⟩ := bx7 BK409.out; obtain ⟨hcz91_0, hcz91_1, hcz91_2, hcz91_3, hcz91_4, hcz91_5, hcz91_6, hfz91_0, hfz91_1, hfz91_2, hfz91_3, hfz91_4, hfz91_5, hfz91_6⟩ := bx7 BK391.out) | (go_at_call 10; (with_reducible refine (cst_Text.calls a0_0 a0_1 a0_2 a0_3 _ _ l0_4 a0_5 _ _ l0_6 t410 _ ?side1 ?side2 ?side3 ?side4 A40.out).mono ?_); (case side1 => exact Kd.C_below HR0_4.out qF); (case side2 => exact HC0_4.out); (case side3 => exact Kd.C_below HR0_6.out qF); (case side4 => exact HC0_6.out); rintro e w92 ⟨rfl, hb⟩; have n0_ := qM (qb (g := gb391) (o := .cells #[.int .i64 a0_0, .int .i64 a0_1, .int .i64 a0_2, .int .i64 a0_3, .slice A0_4 l0_4.length c0_4, .string a0_5, .slice A0_6 l0_6.length c0_6] 26 (0, 0)) (by (with_reducible repeat (first | refine qn ?_ _ | refine qd ?_ | refine qa ?_ _)); refine qf ?_ NB391_409.out _; (with_reducible repeat (first | refine qn ?_ _ | refine qd ?_ | refine qa ?_ _)); refine qf ?_ NB391_409.out _; (with_reducible repeat (first | refine qn ?_ _ | refine qd ?_ | refine qa ?_ _)); refine qf ?_ NB391_409.out _; (with_reducible repeat (first | refine qn ?_ _ | refine qd ?_ | refine qa ?_ _)); refine qf ?_ NB391_409.out _; (with_reducible repeat (first | refine qn ?_ _ | refine qd ?_ | refine qa ?_ _)); refine qf ?_ NB391_409.out _; (with_reducible repeat (first | refine qn ?_ _ | refine qd ?_ | refine qa ?_ _)); refine qf ?_ NB391_409.out _; (with_reducible repeat (first | refine qn ?_ _ | refine qd ?_ | refine qa ?_ _)); refine qf ?_ NB391_409.out _; (with_reducible repeat (first | refine qn ?_ _ | refine qd ?_ | refine qa ?_ _)); refine qf ?_ NB391_409.out _; (with_reducible repeat (first | refine qn ?_ _ | refine qd ?_ | refine qa ?_ _)); exact BK391.out) hb); have n1_ := qM (qb (g := gb409) (o := .cells #[.int .i64 a0_0, .int .i64 a0_1, .int .i64 a0_2, .int .i64 a0_3, .slice A0_4 l0_4.length c0_4, .string a0_5, .slice none 0 0] 26 (0, 0)) (by (with_reducible repeat (first | refine qn ?_ _ | refine qd ?_ | refine qa ?_ _)); refine blk_put (cs := #[.int .i64 a0_0, .int .i64 a0_1, .int .i64 a0_2, .int .i64 a0_3, .slice A0_4 l0_4.length c0_4, .string a0_5, .slice A0_6 l0_6.length c0_6]) ?_ 6 _ rfl; (with_reducible repeat (first | refine qn ?_ _ | refine qd ?_ | refine qa ?_ _)); refine blk_put (cs := #[.int .i64 a0_0, .int .i64 a0_1, .int .i64 a0_2, .int .i64 a0_3, .slice A0_4 l0_4.length c0_4, .string a0_5, .slice none 0 0]) ?_ 6 _ rfl; (with_reducible repeat (first | refine qn ?_ _ | refine qd ?_ | refine qa ?_ _)); refine blk_put (cs := #[.int .i64 a0_0, .int .i64 a0_1, .int .i64 a0_2, .int .i64 a0_3, .slice A0_4 l0_4.length c0_4, .string (⟨#[]⟩ : ByteArray), .slice none 0 0]) ?_ 5 _ rfl; (with_reducible repeat (first | refine qn ?_ _ | refine qd ?_ | refine qa ?_ _)); refine blk_put (cs := #[.int .i64 a0_0, .int .i64 a0_1, .int .i64 a0_2, .int .i64 a0_3, .slice none 0 0, .string (⟨#[]⟩ : ByteArray), .slice none 0 0]) ?_ 4 _ rfl; (with_reducible repeat (first | refine qn ?_ _ | refine qd ?_ | refine qa ?_ _)); refine blk_put (cs := #[.int .i64 a0_0, .int .i64 a0_1, .int .i64 a0_2, .int .i64 0, .slice none 0 0, .string (⟨#[]⟩ : ByteArray), .slice none 0 0]) ?_ 3 _ rfl; (with_reducible repeat (first | refine qn ?_ _ | refine qd ?_ | refine qa ?_ _)); refine blk_put (cs := #[.int .i64 a0_0, .int .i64 a0_1, .int .i64 0, .int .i64 0, .slice none 0 0, .string (⟨#[]⟩ : ByteArray), .slice none 0 0]) ?_ 2 _ rfl; (with_reducible repeat (first | refine qn ?_ _ | refine qd ?_ | refine qa ?_ _)); refine blk_put (cs := #[.int .i64 a0_0, .int .i64 0, .int .i64 0, .int .i64 0, .slice none 0 0, .string (⟨#[]⟩ : ByteArray), .slice none 0 0]) ?_ 1 _ rfl; (with_reducible repeat (first | refine qn ?_ _ | refine qd ?_ | refine qa ?_ _)); refine blk_put (cs := #[.int .i64 0, .int .i64 0, .int .i64 0, .int .i64 0, .slice none 0 0, .string (⟨#[]⟩ : ByteArray), .slice none 0 0]) ?_ 0 _ rfl; (with_reducible repeat (first | refine qn ?_ _ | refine qd ?_ | refine qa ?_ _)); exact BK409.out) hb); have n2_ := qM (qP qF hb); clear BK391; clear BK409; clear HB; have BK391 := n0_; have BK409 := n1_; have HB := n2_; clear n0_ n1_ n2_; (try clear hb); (try clear hb2); (try clear hk); (try clear hi)))
         repeat (go_quiet (first | ((with_reducible refine gate_dst (N := 11) rfl ?_); (try (refine gate_guard (by rfl) ?_; dsimp only)); refine box_event ?hg (N := 11) ?hd (cs := #[.int .i64 0, .int .i64 0, .int .i64 0, .int .i64 0, .slice none 0 0, .string (⟨#[]⟩ : ByteArray), .slice none 0 0]) (t := 26) ?hr ?_; (case hd => rfl); (case hg => rfl); (case hr => first | (go_simp; done) | (go_simp; rfl)); intro gb409 hg w88 hbox hb; have n0_ := qM (qb (g := gb391) qK hb); have n1_ := qM (qP qF hb); have n2_ := qM (hbox); have n3_ := qM ((by rw [hg]; exact (qZ qF) : w.heap.size ≤ gb409)); have n4_ := qM ((by rw [hg]; exact (qZ qF) : w.heap.size ≤ gb409)); have n5_ := qM ((by rw [hg]; exact Nat.ne_of_lt (ql (g := gb391) qK) : gb391 ≠ gb409)); have n6_ := qM ((by rw [hg]; exact Nat.ne_of_gt (ql (g := gb391) qK) : gb409 ≠ gb391)); clear BK391; clear HB; have BK391 := n0_; have HB := n1_; have BK409 := n2_; have GW409 := n3_; have GE409 := n4_; have NB391_409 := n5_; have NB409_391 := n6_; clear n0_ n1_ n2_ n3_ n4_ n5_ n6_; clear hb hbox hg; have hnb89 := NB409_391.out; have hnc89 := NB391_409.out; obtain ⟨hcz90_0, hcz90_1, hcz90_2, hcz90_3, hcz90_4, hcz90_5, hcz90_6, hfz90_0, hfz90_1, hfz90_2, hfz90_3, hfz90_4, hfz90_5, hfz90_6⟩ := bx7 BK409.out; obtain ⟨hcz91_0, hcz91_1, hcz91_2, hcz91_3, hcz91_4, hcz91_5, hcz91_6, hfz91_0, hfz91_1, hfz91_2, hfz91_3, hfz91_4, hfz91_5, hfz91_6⟩ := bx7 BK391.out) | (go_at_call 10; (with_reducible refine (cst_Text.calls a0_0 a0_1 a0_2 a0_3 _ _ l0_4 a0_5 _ _ l0_6 t410 _ ?side1 ?side2 ?side3 ?side4 A40.out).mono ?_); (case side1 => exact Kd.C_below HR0_4.out qF); (case side2 => exact HC0_4.out); (case side3 => exact Kd.C_below HR0_6.out qF); (case side4 => exact HC0_6.out); rintro e w92 ⟨rfl, hb⟩; have n0_ := qM (qb (g := gb391) (o := .cells #[.int .i64 a0_0, .int .i64 a0_1, .int .i64 a0_2, .int .i64 a0_3, .slice A0_4 l0_4.length c0_4, .string a0_5, .slice A0_6 l0_6.length c0_6] 26 (0, 0)) (by (with_reducible repeat (first | refine qn ?_ _ | refine qd ?_ | refine qa ?_ _)); refine qf ?_ NB391_409.out _; (with_reducible repeat (first | refine qn ?_ _ | refine qd ?_ | refine qa ?_ _)); refine qf ?_ NB391_409.out _; (with_reducible repeat (first | refine qn ?_ _ | refine qd ?_ | refine qa ?_ _)); refine qf ?_ NB391_409.out _; (with_reducible repeat (first | refine qn ?_ _ | refine qd ?_ | refine qa ?_ _)); refine qf ?_ NB391_409.out _; (with_reducible repeat (first | refine qn ?_ _ | refine qd ?_ | refine qa ?_ _)); refine qf ?_ NB391_409.out _; (with_reducible repeat (first | refine qn ?_ _ | refine qd ?_ | refine qa ?_ _)); refine qf ?_ NB391_409.out _; (with_reducible repeat (first | refine qn ?_ _ | refine qd ?_ | refine qa ?_ _)); refine qf ?_ NB391_409.out _; (with_reducible repeat (first | refine qn ?_ _ | refine qd ?_ | refine qa ?_ _)); refine qf ?_ NB391_409.out _; (with_reducible repeat (first | refine qn ?_ _ | refine qd ?_ | refine qa ?_ _)); exact BK391.out) hb); have n1_ := qM (qb (g := gb409) (o := .cells #[.int .i64 a0_0, .int .i64 a0_1, .int .i64 a0_2, .int .i64 a0_3, .slice A0_4 l0_4.length c0_4, .string a0_5, .slice none 0 0] 26 (0, 0)) (by (with_reducible repeat (first | refine qn ?_ _ | refine qd ?_ | refine qa ?_ _)); refine blk_put (cs := #[.int .i64 a0_0, .int .i64 a0_1, .int .i64 a0_2, .int .i64 a0_3, .slice A0_4 l0_4.length c0_4, .string a0_5, .slice A0_6 l0_6.length c0_6]) ?_ 6 _ rfl; (with_reducible repeat (first | refine qn ?_ _ | refine qd ?_ | refine qa ?_ _)); refine blk_put (cs := #[.int .i64 a0_0, .int .i64 a0_1, .int .i64 a0_2, .int .i64 a0_3, .slice A0_4 l0_4.length c0_4, .string a0_5, .slice none 0 0]) ?_ 6 _ rfl; (with_reducible repeat (first | refine qn ?_ _ | refine qd ?_ | refine qa ?_ _)); refine blk_put (cs := #[.int .i64 a0_0, .int .i64 a0_1, .int .i64 a0_2, .int .i64 a0_3, .slice A0_4 l0_4.length c0_4, .string (⟨#[]⟩ : ByteArray), .slice none 0 0]) ?_ 5 _ rfl; (with_reducible repeat (first | refine qn ?_ _ | refine qd ?_ | refine qa ?_ _)); refine blk_put (cs := #[.int .i64 a0_0, .int .i64 a0_1, .int .i64 a0_2, .int .i64 a0_3, .slice none 0 0, .string (⟨#[]⟩ : ByteArray), .slice none 0 0]) ?_ 4 _ rfl; (with_reducible repeat (first | refine qn ?_ _ | refine qd ?_ | refine qa ?_ _)); refine blk_put (cs := #[.int .i64 a0_0, .int .i64 a0_1, .int .i64 a0_2, .int .i64 0, .slice none 0 0, .string (⟨#[]⟩ : ByteArray), .slice none 0 0]) ?_ 3 _ rfl; (with_reducible repeat (first | refine qn ?_ _ | refine qd ?_ | refine qa ?_ _)); refine blk_put (cs := #[.int .i64 a0_0, .int .i64 a0_1, .int .i64 0, .int .i64 0, .slice none 0 0, .string (⟨#[]⟩ : ByteArray), .slice none 0 0]) ?_ 2 _ rfl; (with_reducible repeat (first | refine qn ?_ _ | refine qd ?_ | refine qa ?_ _)); refine blk_put (cs := #[.int .i64 a0_0, .int .i64 0, .int .i64 0, .int .i64 0, .slice none 0 0, .string (⟨#[]⟩ : ByteArray), .slice none 0 0]) ?_ 1 _ rfl; (with_reducible repeat (first | refine qn ?_ _ | refine qd ?_ | refine qa ?_ _)); refine blk_put (cs := #[.int .i64 0, .int .i64 0, .int .i64 0, .int .i64 0, .slice none 0 0, .string (⟨#[]⟩ : ByteArray), .slice none 0 0]) ?_ 0 _ rfl; (with_reducible repeat (first | refine qn ?_ _ | refine qd ?_ | refine qa ?_ _)); exact BK409.out) hb); have n2_ := qM (qP qF hb); clear BK391; clear BK409; clear HB; have BK391 := n0_; have BK409 := n1_; have HB := n2_; clear n0_ n1_ n2_; (try clear hb); (try clear hb2); (try clear hk); (try clear hi))); try go_wp2_with (first | ((with_reducible refine gate_dst (N := 11) rfl ?_); (try (refine gate_guard (by rfl) ?_; dsimp only)); refine box_event ?hg (N := 11) ?hd (cs := #[.int .i64 0, .int .i64 0, .int .i64 0, .int .i64 0, .slice none 0 0, .string (⟨#[]⟩ : ByteArray), .slice none 0 0]) (t := 26) ?hr ?_; (case hd => rfl); (case hg => rfl); (case hr => first | (go_simp; done) | (go_simp; rfl)); intro gb409 hg w88 hbox hb; have n0_ := qM (qb (g := gb391) qK hb); have n1_ := qM (qP qF hb); have n2_ := qM (hbox); have n3_ := qM ((by rw [hg]; exact (qZ qF) : w.heap.size ≤ gb409)); have n4_ := qM ((by rw [hg]; exact (qZ qF) : w.heap.size ≤ gb409)); have n5_ := qM ((by rw [hg]; exact Nat.ne_of_lt (ql (g := gb391) qK) : gb391 ≠ gb409)); have n6_ := qM ((by rw [hg]; exact Nat.ne_of_gt (ql (g := gb391) qK) : gb409 ≠ gb391)); clear BK391; clear HB; have BK391 := n0_; have HB := n1_; have BK409 := n2_; have GW409 := n3_; have GE409 := n4_; have NB391_409 := n5_; have NB409_391 := n6_; clear n0_ n1_ n2_ n3_ n4_ n5_ n6_; clear hb hbox hg; have hnb89 := NB409_391.out; have hnc89 := NB391_409.out; obtain ⟨hcz90_0, hcz90_1, hcz90_2, hcz90_3, hcz90_4, hcz90_5, hcz90_6, hfz90_0, hfz90_1, hfz90_2, hfz90_3, hfz90_4, hfz90_5, hfz90_6⟩ := bx7 BK409.out; obtain ⟨hcz91_0, hcz91_1, hcz91_2, hcz91_3, hcz91_4, hcz91_5, hcz91_6, hfz91_0, hfz91_1, hfz91_2, hfz91_3, hfz91_4, hfz91_5, hfz91_6⟩ := bx7 BK391.out) | (go_at_call 10; (with_reducible refine (cst_Text.calls a0_0 a0_1 a0_2 a0_3 _ _ l0_4 a0_5 _ _ l0_6 t410 _ ?side1 ?side2 ?side3 ?side4 A40.out).mono ?_); (case side1 => exact Kd.C_below HR0_4.out qF); (case side2 => exact HC0_4.out); (case side3 => exact Kd.C_below HR0_6.out qF); (case side4 => exact HC0_6.out); rintro e w92 ⟨rfl, hb⟩; have n0_ := qM (qb (g := gb391) (o := .cells #[.int .i64 a0_0, .int .i64 a0_1, .int .i64 a0_2, .int .i64 a0_3, .slice A0_4 l0_4.length c0_4, .string a0_5, .slice A0_6 l0_6.length c0_6] 26 (0, 0)) (by (with_reducible repeat (first | refine qn ?_ _ | refine qd ?_ | refine qa ?_ _)); refine qf ?_ NB391_409.out _; (with_reducible repeat (first | refine qn ?_ _ | refine qd ?_ | refine qa ?_ _)); refine qf ?_ NB391_409.out _; (with_reducible repeat (first | refine qn ?_ _ | refine qd ?_ | refine qa ?_ _)); refine qf ?_ NB391_409.out _; (with_reducible repeat (first | refine qn ?_ _ | refine qd ?_ | refine qa ?_ _)); refine qf ?_ NB391_409.out _; (with_reducible repeat (first | refine qn ?_ _ | refine qd ?_ | refine qa ?_ _)); refine qf ?_ NB391_409.out _; (with_reducible repeat (first | refine qn ?_ _ | refine qd ?_ | refine qa ?_ _)); refine qf ?_ NB391_409.out _; (with_reducible repeat (first | refine qn ?_ _ | refine qd ?_ | refine qa ?_ _)); refine qf ?_ NB391_409.out _; (with_reducible repeat (first | refine qn ?_ _ | refine qd ?_ | refine qa ?_ _)); refine qf ?_ NB391_409.out _; (with_reducible repeat (first | refine qn ?_ _ | refine qd ?_ | refine qa ?_ _)); exact BK391.out) hb); have n1_ := qM (qb (g := gb409) (o := .cells #[.int .i64 a0_0, .int .i64 a0_1, .int .i64 a0_2, .int .i64 a0_3, .slice A0_4 l0_4.length c0_4, .string a0_5, .slice none 0 0] 26 (0, 0)) (by (with_reducible repeat (first | refine qn ?_ _ | refine qd ?_ | refine qa ?_ _)); refine blk_put (cs := #[.int .i64 a0_0, .int .i64 a0_1, .int .i64 a0_2, .int .i64 a0_3, .slice A0_4 l0_4.length c0_4, .string a0_5, .slice A0_6 l0_6.length c0_6]) ?_ 6 _ rfl; (with_reducible repeat (first | refine qn ?_ _ | refine qd ?_ | refine qa ?_ _)); refine blk_put (cs := #[.int .i64 a0_0, .int .i64 a0_1, .int .i64 a0_2, .int .i64 a0_3, .slice A0_4 l0_4.length c0_4, .string a0_5, .slice none 0 0]) ?_ 6 _ rfl; (with_reducible repeat (first | refine qn ?_ _ | refine qd ?_ | refine qa ?_ _)); refine blk_put (cs := #[.int .i64 a0_0, .int .i64 a0_1, .int .i64 a0_2, .int .i64 a0_3, .slice A0_4 l0_4.length c0_4, .string (⟨#[]⟩ : ByteArray), .slice none 0 0]) ?_ 5 _ rfl; (with_reducible repeat (first | refine qn ?_ _ | refine qd ?_ | refine qa ?_ _)); refine blk_put (cs := #[.int .i64 a0_0, .int .i64 a0_1, .int .i64 a0_2, .int .i64 a0_3, .slice none 0 0, .string (⟨#[]⟩ : ByteArray), .slice none 0 0]) ?_ 4 _ rfl; (with_reducible repeat (first | refine qn ?_ _ | refine qd ?_ | refine qa ?_ _)); refine blk_put (cs := #[.int .i64 a0_0, .int .i64 a0_1, .int .i64 a0_2, .int .i64 0, .slice none 0 0, .string (⟨#[]⟩ : ByteArray), .slice none 0 0]) ?_ 3 _ rfl; (with_reducible repeat (first | refine qn ?_ _ | refine qd ?_ | refine qa ?_ _)); refine blk_put (cs := #[.int .i64 a0_0, .int .i64 a0_1, .int .i64 0, .int .i64 0, .slice none 0 0, .string (⟨#[]⟩ : ByteArray), .slice none 0 0]) ?_ 2 _ rfl; (with_reducible repeat (first | refine qn ?_ _ | refine qd ?_ | refine qa ?_ _)); refine blk_put (cs := #[.int .i64 a0_0, .int .i64 0, .int .i64 0, .int .i64 0, .slice none 0 0, .string (⟨#[]⟩ : ByteArray), .slice none 0 0]) ?_ 1 _ rfl; (with_reducible repeat (first | refine qn ?_ _ | refine qd ?_ | refine qa ?_ _)); refine blk_put (cs := #[.int .i64 0, .int .i64 0, .int .i64 0, .int .i64 0, .slice none 0 0, .string (⟨#[]⟩ : ByteArray), .slice none 0 0]) ?_ 0 _ rfl; (with_reducible repeat (first | refine qn ?_ _ | refine qd ?_ | refine qa ?_ _)); exact BK409.out) hb); have n2_ := qM (qP qF hb); clear BK391; clear BK409; clear HB; have BK391 := n0_; have BK409 := n1_; have HB := n2_; clear n0_ n1_ n2_; (try clear hb); (try clear hb2); (try clear hk); (try clear hi))))
         (go_ret); (exact ⟨qE, qF⟩)
 ·replace c3 := Bool.eq_false_iff.mpr c3
  subst c3; (have H1 : ((arboristlaw42_knows.f).bind fun t393 => (some t393)) = some r := by rw [if_neg (show ¬ (false = true) by decide)] at H; exact H); clear H; (have H := H1); clear H1; (replace H := Option.bind_eq_some_iff.mp H); (obtain ⟨t393, A930, H⟩ := H); (replace H : (some t393) = some r := H); (have A93 := qM A930); clear A930; (obtain rfl := Option.some.inj H); (go_enter Tryd.func6, Tryd.ntmps6)
  go_wp2_with (first | ((with_reducible refine gate_dst (N := 1) rfl ?_); (try (refine gate_guard (by rfl) ?_; dsimp only)); refine box_event ?hg (N := 1) ?hd (cs := #[.int .i64 a0_0, .int .i64 a0_1, .int .i64 a0_2, .int .i64 a0_3, .slice A0_4 l0_4.length c0_4, .string a0_5, .slice A0_6 l0_6.length c0_6]) (t := 26) ?hr ?_; (case hd => rfl); (case hg => rfl); (case hr => first | (go_simp; done) | (go_simp; rfl)); intro gb391 hg w94 hbox hb; have n0_ := qM (qP qF hb); have n1_ := qM (hbox); have n2_ := qM ((by rw [hg]; exact (qZ qF) : w.heap.size ≤ gb391)); have n3_ := qM ((by rw [hg]; exact (qZ qF) : w.heap.size ≤ gb391)); clear HB; have HB := n0_; have BK391 := n1_; have GW391 := n2_; have GE391 := n3_; clear n0_ n1_ n2_ n3_; clear hb hbox hg; obtain ⟨hcz95_0, hcz95_1, hcz95_2, hcz95_3, hcz95_4, hcz95_5, hcz95_6, hfz95_0, hfz95_1, hfz95_2, hfz95_3, hfz95_4, hfz95_5, hfz95_6⟩ := bx7 BK391.out) | (go_at_call 8; (with_reducible refine (arboristref42_Few.calls k a0_0 a0_1 a0_2 a0_3 _ _ l0_4 a0_5 _ _ l0_6 300 false _ ?side1 ?side2 ?side3 ?side4 A2.out).mono ?_); (case side1 => exact qC HR0_4.out qF); (case side2 => exact HC0_4.out); (case side3 => exact qC HR0_6.out qF); (case side4 => exact HC0_6.out); rintro e w96 ⟨rfl, hb⟩; have n0_ := qM (qb (g := gb391) qK hb); have n1_ := qM (qP qF hb); clear BK391; clear HB; have BK391 := n0_; have HB := n1_; clear n0_ n1_; (try clear hb); (try clear hb2); (try clear hk); (try clear hi)) | (go_at_call 9; (with_reducible refine (arboristlaw42_knows.calls  t393 _ ?side1 A93.out).mono ?_); (case side1 => exact GW.below HGW.out qF); rintro e w97 ⟨rfl, hb⟩; have n0_ := qM (qb (g := gb391) qK hb); have n1_ := qM (qP qF hb); clear BK391; clear HB; have BK391 := n0_; have HB := n1_; clear n0_ n1_; (try clear hb); (try clear hb2); (try clear hk); (try clear hi)))
  repeat (go_quiet (first | ((with_reducible refine gate_dst (N := 1) rfl ?_); (try (refine gate_guard (by rfl) ?_; dsimp only)); refine box_event ?hg (N := 1) ?hd (cs := #[.int .i64 a0_0, .int .i64 a0_1, .int .i64 a0_2, .int .i64 a0_3, .slice A0_4 l0_4.length c0_4, .string a0_5, .slice A0_6 l0_6.length c0_6]) (t := 26) ?hr ?_; (case hd => rfl); (case hg => rfl); (case hr => first | (go_simp; done) | (go_simp; rfl)); intro gb391 hg w94 hbox hb; have n0_ := qM (qP qF hb); have n1_ := qM (hbox); have n2_ := qM ((by rw [hg]; exact (qZ qF) : w.heap.size ≤ gb391)); have n3_ := qM ((by rw [hg]; exact (qZ qF) : w.heap.size ≤ gb391)); clear HB; have HB := n0_; have BK391 := n1_; have GW391 := n2_; have GE391 := n3_; clear n0_ n1_ n2_ n3_; clear hb hbox hg; obtain ⟨hcz95_0, hcz95_1, hcz95_2, hcz95_3, hcz95_4, hcz95_5, hcz95_6, hfz95_0, hfz95_1, hfz95_2, hfz95_3, hfz95_4, hfz95_5, hfz95_6⟩ := bx7 BK391.out) | (go_at_call 8; (with_reducible refine (arboristref42_Few.calls k a0_0 a0_1 a0_2 a0_3 _ _ l0_4 a0_5 _ _ l0_6 300 false _ ?side1 ?side2 ?side3 ?side4 A2.out).mono ?_); (case side1 => exact qC HR0_4.out qF); (case side2 => exact HC0_4.out); (case side3 => exact qC HR0_6.out qF); (case side4 => exact HC0_6.out); rintro e w96 ⟨rfl, hb⟩; have n0_ := qM (qb (g := gb391) qK hb); have n1_ := qM (qP qF hb); clear BK391; clear HB; have BK391 := n0_; have HB := n1_; clear n0_ n1_; (try clear hb); (try clear hb2); (try clear hk); (try clear hi)) | (go_at_call 9; (with_reducible refine (arboristlaw42_knows.calls  t393 _ ?side1 A93.out).mono ?_); (case side1 => exact GW.below HGW.out qF); rintro e w97 ⟨rfl, hb⟩; have n0_ := qM (qb (g := gb391) qK hb); have n1_ := qM (qP qF hb); clear BK391; clear HB; have BK391 := n0_; have HB := n1_; clear n0_ n1_; (try clear hb); (try clear hb2); (try clear hk); (try clear hi))); try go_wp2_with (first | ((with_reducible refine gate_dst (N := 1) rfl ?_); (try (refine gate_guard (by rfl) ?_; dsimp only)); refine box_event ?hg (N := 1) ?hd (cs := #[.int .i64 a0_0, .int .i64 a0_1, .int .i64 a0_2, .int .i64 a0_3, .slice A0_4 l0_4.length c0_4, .string a0_5, .slice A0_6 l0_6.length c0_6]) (t := 26) ?hr ?_; (case hd => rfl); (case hg => rfl); (case hr => first | (go_simp; done) | (go_simp; rfl)); intro gb391 hg w94 hbox hb; have n0_ := qM (qP qF hb); have n1_ := qM (hbox); have n2_ := qM ((by rw [hg]; exact (qZ qF) : w.heap.size ≤ gb391)); have n3_ := qM ((by rw [hg]; exact (qZ qF) : w.heap.size ≤ gb391)); clear HB; have HB := n0_; have BK391 := n1_; have GW391 := n2_; have GE391 := n3_; clear n0_ n1_ n2_ n3_; clear hb hbox hg; obtain ⟨hcz95_0, hcz95_1, hcz95_2, hcz95_3, hcz95_4, hcz95_5, hcz95_6, hfz95_0, hfz95_1, hfz95_2, hfz95_3, hfz95_4, hfz95_5, hfz95_6⟩ := bx7 BK391.out) | (go_at_call 8; (with_reducible refine (arboristref42_Few.calls k a0_0 a0_1 a0_2 a0_3 _ _ l0_4 a0_5 _ _ l0_6 300 false _ ?side1 ?side2 ?side3 ?side4 A2.out).mono ?_); (case side1 => exact qC HR0_4.out qF); (case side2 => exact HC0_4.out); (case side3 => exact qC HR0_6.out qF); (case side4 => exact HC0_6.out); rintro e w96 ⟨rfl, hb⟩; have n0_ := qM (qb (g := gb391) qK hb); have n1_ := qM (qP qF hb); clear BK391; clear HB; have BK391 := n0_; have HB := n1_; clear n0_ n1_; (try clear hb); (try clear hb2); (try clear hk); (try clear hi)) | (go_at_call 9; (with_reducible refine (arboristlaw42_knows.calls  t393 _ ?side1 A93.out).mono ?_); (case side1 => exact GW.below HGW.out qF); rintro e w97 ⟨rfl, hb⟩; have n0_ := qM (qb (g := gb391) qK hb); have n1_ := qM (qP qF hb); clear BK391; clear HB; have BK391 := n0_; have HB := n1_; clear n0_ n1_; (try clear hb); (try clear hb2); (try clear hk); (try clear hi))))
  (go_ret); (exact ⟨qE, qF⟩)
end Go.Proofs.YtphmgaijkdflnaaDoor.H
end
section
namespace Go.Proofs.YtphmgaijkdflnaaDoor.H
open Go.RowKit Go.Proofs.YtphmgaijkdflnaaDoorW.PrintWords Go.Proofs.YtphmgaijkdflnaaDoorW.PrintLast Go.Proofs.YtphmgaijkdflnaaDoorW.PrintMore
set_option linter.unusedVariables false
set_option linter.unusedSimpArgs false
theorem leaves_own (x : S26) : (leavesN x).flatMap ownOf = (preN x).flatMap ownOf := by
  unfold leavesN
  generalize preN x = l
  induction l with
  | nil => rfl
  | cons y r ih =>
    by_cases h : 0 ≤ y.f0
    · rw [List.filter_cons_of_pos (by simpa using h), List.map_cons, List.flatMap_cons, List.flatMap_cons, ih]
      rfl
    · rw [List.filter_cons_of_neg (by simpa using h), ih, List.flatMap_cons]
      have : ownOf y = [] := by unfold ownOf; rw [if_pos (by omega)]
      rw [this]; rfl
section
variable (x : S26) (l : List S26) (hl : l.length ≤ 100000) (hlead : ∀ y ∈ l, y.f4.length ≤ 140737488355328)
include hl hlead
theorem bytes_l1 (i : Nat) (hi : i < l.length) : ∀ (r : List S46) (j : Nat) (acc : ByteArray), l[i].f4.drop j = r → j ≤ l[i].f4.length → acc.size + szB (r.map (·.f2) ++ [l[i].f5]) ≤ 4294967296 →
    Ends (fun k => arboristlaw42_CstBytes.l0 k l (acc ++ cat (r.map (·.f2) ++ [l[i].f5])) ((i + 1 : Nat) : Int) x.f0 x.f1 x.f2 x.f3 x.f4 x.f5 x.f6) true → Ends (fun k => arboristlaw42_CstBytes.l1 k l acc (i : Int) (j : Int) x.f0 x.f1 x.f2 x.f3 x.f4 x.f5 x.f6) true := by
  have hk := hlead _ (List.getElem_mem hi)
  intro r
  induction r with
  | nil =>
    intro j acc hr hj hb hn
    have e := tdrop_nil hr hj
    have hs : szB [l[i].f5] = l[i].f5.size := by simp [szB]
    simp only [List.map_nil, List.nil_append] at hb hn
    rw [cat_one] at hn
    refine Ends.step (fun k => arboristlaw42_CstBytes.l1.eq_2 ..) (Ends.pos (by omega) (Ends.pos (by omega) (Ends.neg (by rw [rdN _ _ hi]; omega) ?_)))
    rw [rdN _ _ hi]
    refine Ends.pos (by omega) ?_
    rw [wrap_succ i (by omega)]
    exact hn
  | cons p r ihr =>
    intro j acc hr hj hb hn
    obtain ⟨hlt, hp, hr2⟩ := tdrop_cons hr
    have hsz : szB ((p :: r).map (·.f2) ++ [l[i].f5]) = p.f2.size + szB (r.map (·.f2) ++ [l[i].f5]) := by simp [szB]
    rw [hsz] at hb
    rw [List.map_cons, List.cons_append, cat_cons, ← ByteArray.append_assoc] at hn
    have h3 := ihr (j + 1) (acc ++ p.f2) hr2 hlt (by rw [ByteArray.size_append]; omega) hn
    refine Ends.step (fun k => arboristlaw42_CstBytes.l1.eq_2 ..) (Ends.pos (by omega) (Ends.pos (by omega) (Ends.pos (by rw [rdN _ _ hi]; omega) (Ends.pos (by omega) ?_))))
    rw [rdN _ _ hi, rdT _ _ hlt, hp]
    refine Ends.pos (by omega) ?_
    rw [wrap_succ j (by omega)]
    exact h3
theorem bytes_l0 (hy : ∀ y ∈ l, 0 ≤ y.f0 ∧ y.f6 = []) : ∀ (r : List S26) (i : Nat) (acc : ByteArray), l.drop i = r → i ≤ l.length → acc.size + szB (r.flatMap ownOf) ≤ 4294967296 →
    Ends (fun k => arboristlaw42_CstBytes.l2 k (acc ++ cat (r.flatMap ownOf)) 0 1 (x.f3 == 0) 0 x.f0 x.f1 x.f2 x.f3 x.f4 x.f5 x.f6) true → Ends (fun k => arboristlaw42_CstBytes.l0 k l acc (i : Int) x.f0 x.f1 x.f2 x.f3 x.f4 x.f5 x.f6) true := by
  intro r
  induction r with
  | nil =>
    intro i acc hr hi hb hn
    have e := tdrop_nil hr hi
    have e2 : acc ++ cat (([] : List S26).flatMap ownOf) = acc := ByteArray.append_empty
    rw [e2] at hn
    exact Ends.step (fun k => arboristlaw42_CstBytes.l0.eq_2 ..) (Ends.neg (by omega) hn)
  | cons p r ihr =>
    intro i acc hr hi hb hn
    obtain ⟨hlt, hp, hr2⟩ := tdrop_cons hr
    obtain ⟨h0, h6⟩ := hy _ (List.getElem_mem hlt)
    have ho : ownOf p = p.f4.map (·.f2) ++ [p.f5] := by unfold ownOf; rw [if_neg (by rw [← hp]; omega)]
    simp only [List.flatMap_cons] at hb hn
    rw [szB_append] at hb
    rw [cat_append, ← ByteArray.append_assoc] at hn
    have h3 := ihr (i + 1) (acc ++ cat (ownOf p)) hr2 hlt (by rw [ByteArray.size_append, cat_size]; omega) hn
    rw [ho, ← hp] at h3
    rw [ho, ← hp] at hb
    have h4 := bytes_l1 x l hl hlead i hlt l[i].f4 0 acc rfl (by omega) (by omega) h3
    refine Ends.step (fun k => arboristlaw42_CstBytes.l0.eq_2 ..) (Ends.pos (by omega) (Ends.pos (by omega) (Ends.neg (by rw [rdN _ _ hlt]; omega) ?_)))
    refine Ends.step (fun k => arboristlaw42_CstBytes.j1.eq_2 ..) (Ends.neg (by rw [rdN _ _ hlt, h6]; simp) h4)
end
def sumT (l : List S26) : Nat := (l.map (fun k => (textB k).size)).sum
theorem textB_size (x : S26) : (textB x).size = szB (ownOf x) + sumT x.f6 := by
  have h : ∀ l : List S26, szB ((preL l).flatMap ownOf) = sumT l := by
    intro l
    induction l with
    | nil => rfl
    | cons k r ih =>
      simp only [preL, List.flatMap_append, szB_append, sumT, List.map_cons, List.sum_cons]
      rw [ih]
      have : (textB k).size = szB ((preN k).flatMap ownOf) := cat_size _
      rw [this]; rfl
  have e : (textB x).size = szB ((preN x).flatMap ownOf) := cat_size _
  rw [e, preN_eq, List.flatMap_cons, szB_append, h]
def alone (x : S26) : S26 := ⟨x.f0, x.f1, x.f2, x.f3, x.f4, x.f5, []⟩
theorem bytes_l2 (x : S26) (hx : OkN x) (hw : wN x ≤ 300) : ∀ (r : List S26) (i b c : Nat) (q : Bool), x.f6.drop i = r → i ≤ x.f6.length → szB (ownOf x) + b + sumT r = (textB x).size → c + (preL r).length = (preN x).length →
    (preN x).all cleanN = (q && (r.all fun k => (preN k).all cleanN) && cleanN x) →
    Ends (fun k => arboristlaw42_CstBytes.l2 k (textB x) (b : Int) (c : Int) q (i : Int) x.f0 x.f1 x.f2 x.f3 x.f4 x.f5 x.f6) true := by
  have hk := hx.kids
  have hm := mild_of hw
  have hts : (textB x).size ≤ 4800 := by
    have h1 := pre_size x
    have e : (textB x).size = szB ((preN x).flatMap ownOf) := cat_size _
    omega
  have hps := pre_len x
  have hwa : wN (alone x) ≤ 300 := by
    have h1 := wN_eq x
    have h2 := wN_eq (alone x)
    simp only [alone, wL] at h2 ⊢
    omega
  have hma := mild_of hwa
  intro r
  induction r with
  | nil =>
    intro i b c q hr hi hb hc hq
    have e := tdrop_nil hr hi
    simp only [preL, List.length_nil, sumT, List.map_nil, List.sum_nil, List.all_nil, Bool.and_true] at hb hc hq
    refine Ends.step (fun k => arboristlaw42_CstBytes.l2.eq_2 ..) (Ends.neg (by omega) ?_)
    refine Ends.bind0 (text_val hm) (Ends.pos rfl (Ends.bind0 (len_val hm) (Ends.pos rfl ?_)))
    refine Ends.bind0 (show cst_Len.f x.f0 x.f1 x.f2 x.f3 x.f4 x.f5 [] = some ((textB (alone x)).size : Int) from len_val hma) ?_
    have ha : (textB (alone x)).size = szB (ownOf x) := by
      rw [textB_size]
      show szB (ownOf x) + sumT [] = _
      simp [sumT]
    rw [ha]
    refine Ends.pos (by rw [twrap_id _ (by omega) (by omega)]; omega) (Ends.bind0 (size_val hm) (Ends.pos (by omega) (Ends.bind0 (clean_val hm) ?_)))
    cases q with
    | true =>
      refine Ends.pos rfl (Ends.bind0 (show cst_Clean.f x.f0 x.f1 x.f2 x.f3 x.f4 x.f5 [] = some ((preN (alone x)).all cleanN) from clean_val hma) (Ends.pos ?_ knows_ends))
      have : (preN (alone x)).all cleanN = cleanN x := by
        rw [preN_eq]
        simp only [alone, preL, List.all_cons, List.all_nil, Bool.and_true]
        rfl
      rw [this, hq]
      simp
    | false =>
      refine Ends.neg (by simp) (Ends.pos ?_ knows_ends)
      rw [hq]; simp
  | cons p r ihr =>
    intro i b c q hr hi hb hc hq
    obtain ⟨hlt, hp, hr2⟩ := tdrop_cons hr
    have hmem : p ∈ x.f6 := hp ▸ List.getElem_mem hlt
    have hmp := mild_of (show wN p ≤ 300 by have := wN_kid hmem; omega)
    have hsp : sumT (p :: r) = (textB p).size + sumT r := by simp [sumT]
    rw [hsp] at hb
    simp only [preL, List.length_append] at hc
    have h3 := fun q' h => ihr (i + 1) (b + (textB p).size) (c + (preN p).length) q' hr2 hlt (by omega) (by omega) h
    refine Ends.step (fun k => arboristlaw42_CstBytes.l2.eq_2 ..) (Ends.pos (by omega) (Ends.pos (by omega) ?_))
    rw [rdN _ _ hlt, hp]
    refine Ends.bind0 (len_val hmp) (Ends.bind0 (size_val hmp) ?_)
    rw [wrap_succ i (by omega), show wrap64 ((b : Int) + ((textB p).size : Int)) = ((b + (textB p).size : Nat) : Int) by unfold wrap64; omega, show wrap64 ((c : Int) + ((preN p).length : Int)) = ((c + (preN p).length : Nat) : Int) by unfold wrap64; omega]
    cases q with
    | true =>
      refine Ends.pos rfl (Ends.bind0 (clean_val hmp) (h3 _ ?_))
      rw [hq, List.all_cons, Bool.true_and]
    | false =>
      refine Ends.neg (by simp) (h3 false ?_)
      rw [hq]; simp
theorem Pure.CstBytes (x : S26) (hx : ok26 x) : ∃ k, arboristlaw42_CstBytes.f k x.f0 x.f1 x.f2 x.f3 x.f4 x.f5 x.f6 = some true := by
  refine Ends.get (g := fun k => arboristlaw42_CstBytes.f k x.f0 x.f1 x.f2 x.f3 x.f4 x.f5 x.f6) ?_
  unfold arboristlaw42_CstBytes.f
  by_cases hw : wN x ≤ 300
  · have hm := mild_of hw
    have h1 := pre_len x
    have h2 := leaves_len x
    have h3 := pre_size x
    refine Ends.bind ((tfew_ends x hx).val (decide_eq_true hw)) (Ends.pos rfl (Ends.bind0 (leaves_val hm) ?_))
    have hy : ∀ y ∈ leavesN x, 0 ≤ y.f0 ∧ y.f6 = [] := fun y hy => by
      unfold leavesN at hy
      obtain ⟨z, hz, rfl⟩ := List.mem_map.1 hy
      exact ⟨show 0 ≤ z.f0 from of_decide_eq_true (List.mem_filter.1 hz).2, rfl⟩
    refine bytes_l0 x (leavesN x) (by omega) (fun y hy => (okN (leaves_ok hx y hy)).lead) hy (leavesN x) 0 ⟨#[]⟩ rfl (by omega) ?_ ?_
    · rw [leaves_own]
      have : (⟨#[]⟩ : ByteArray).size = 0 := rfl
      omega
    · rw [leaves_own]
      have e : (⟨#[]⟩ : ByteArray) ++ cat ((preN x).flatMap ownOf) = textB x := ByteArray.empty_append
      rw [e]
      refine bytes_l2 x (okN hx) hw x.f6 0 0 1 (x.f3 == 0) rfl (by omega) (by rw [textB_size]; omega) (by rw [preN_eq]; simp; omega) ?_
      rw [preN_eq, List.all_cons]
      have hall : ∀ l : List S26, (preL l).all cleanN = l.all fun k => (preN k).all cleanN := by
        intro l
        induction l with
        | nil => rfl
        | cons k r ih => simp only [preL, List.all_append, List.all_cons, ih]
      rw [hall]
      unfold cleanN
      cases (x.f4.all fun p => decide (p.f0 = 1)) <;> cases (x.f6.all fun k => (preN k).all fun y => decide (y.f3 = 0) && y.f4.all fun p => decide (p.f0 = 1)) <;> by_cases h : x.f3 = 0 <;> simp [h]
  · exact Ends.bind ((tfew_ends x hx).val (decide_eq_false hw)) (Ends.neg (by simp) knows_ends)
end Go.Proofs.YtphmgaijkdflnaaDoor.H
end
section
namespace Go.Proofs.YtphmgaijkdflnaaDoor.H.cstBytes
open Go.ChangeShapes Go.WideShapes Go.ChangeAt Go.RowKit Go.Proofs.YtphmgaijkdflnaaDoorW.PrintWords Go.Proofs.YtphmgaijkdflnaaDoorW.PrintLast Go.Proofs.YtphmgaijkdflnaaDoorW.PrintMore
open Go.ChangeMaps (open_string shut_string)
set_option linter.unusedVariables false
set_option linter.unusedSimpArgs false
theorem own : ownKnob Tryd.prog.godebug = none := by kernel_rfl
theorem laidOut : laidOutB Tryd.prog = true := by kernel_rfl
noncomputable def laidWorld (os : Os) : World := { World.holding Tryd.prog os ⟨#[], #[], []⟩ with heap := ((((((World.holding Tryd.prog os ⟨#[], #[], []⟩).heap).modify 3 (fun | .cells _ t frozen => .cells (([0, 1, 28, 2, 29, 14, 24, 3, 30, 22, 20, 15, 25, 17, 4, 8, 31, 27, 13, 23, 21, 19, 16, 7, 26, 12, 18, 6, 11, 5, 10, 9] : List Int).map fun z => Value.int .u8 z).toArray t frozen | o => o)).modify 4 (fun | .cells _ t frozen => .cells (([0, 1, 56, 2, 57, 49, 28, 3, 61, 58, 42, 50, 38, 29, 17, 4, 62, 47, 59, 36, 45, 43, 51, 22, 53, 39, 33, 30, 24, 18, 12, 5, 63, 55, 48, 27, 60, 41, 37, 16, 46, 35, 44, 21, 52, 32, 23, 11, 54, 26, 40, 15, 34, 20, 31, 10, 25, 14, 19, 9, 13, 8, 7, 6] : List Int).map fun z => Value.int .u8 z).toArray t frozen | o => o)).modify 2 (fun | .cells _ t frozen => .cells (([1, 10, 100, 1000, 10000, 100000, 1000000, 10000000, 100000000, 1000000000, 10000000000, 100000000000, 1000000000000, 10000000000000, 100000000000000, 1000000000000000, 10000000000000000, 100000000000000000, 1000000000000000000, 10000000000000000000] : List Int).map fun z => Value.int .u64 z).toArray t frozen | o => o)).modify 1 (fun | .cells _ t frozen => .cells (([128, 191, 160, 191, 128, 159, 144, 191, 128, 143, 0, 0, 0, 0, 0, 0, 0, 0, 0, 0, 0, 0, 0, 0, 0, 0, 0, 0, 0, 0, 0, 0] : List Int).map fun z => Value.int .u8 z).toArray t frozen | o => o)).modify 0 (fun | .cells _ t frozen => .cells (([240, 240, 240, 240, 240, 240, 240, 240, 240, 240, 240, 240, 240, 240, 240, 240, 240, 240, 240, 240, 240, 240, 240, 240, 240, 240, 240, 240, 240, 240, 240, 240, 240, 240, 240, 240, 240, 240, 240, 240, 240, 240, 240, 240, 240, 240, 240, 240, 240, 240, 240, 240, 240, 240, 240, 240, 240, 240, 240, 240, 240, 240, 240, 240, 240, 240, 240, 240, 240, 240, 240, 240, 240, 240, 240, 240, 240, 240, 240, 240, 240, 240, 240, 240, 240, 240, 240, 240, 240, 240, 240, 240, 240, 240, 240, 240, 240, 240, 240, 240, 240, 240, 240, 240, 240, 240, 240, 240, 240, 240, 240, 240, 240, 240, 240, 240, 240, 240, 240, 240, 240, 240, 240, 240, 240, 240, 240, 240, 241, 241, 241, 241, 241, 241, 241, 241, 241, 241, 241, 241, 241, 241, 241, 241, 241, 241, 241, 241, 241, 241, 241, 241, 241, 241, 241, 241, 241, 241, 241, 241, 241, 241, 241, 241, 241, 241, 241, 241, 241, 241, 241, 241, 241, 241, 241, 241, 241, 241, 241, 241, 241, 241, 241, 241, 241, 241, 241, 241, 241, 241, 241, 241, 241, 241, 2, 2, 2, 2, 2, 2, 2, 2, 2, 2, 2, 2, 2, 2, 2, 2, 2, 2, 2, 2, 2, 2, 2, 2, 2, 2, 2, 2, 2, 2, 19, 3, 3, 3, 3, 3, 3, 3, 3, 3, 3, 3, 3, 35, 3, 3, 52, 4, 4, 4, 68, 241, 241, 241, 241, 241, 241, 241, 241, 241, 241, 241] : List Int).map fun z => Value.int .u8 z).toArray t frozen | o => o) }
set_option maxRecDepth 100000 in
theorem laid_met (os : Os) (args : Array Value) : laidMet Tryd.prog Rows.cstBytesRow.laid ((laidWorld os).forCall (fun _ _ => 0) ⟨#[], args, []⟩).memory := laidMet_of_run' 8 (by kernel_rfl) (by kernel_rfl)
set_option maxRecDepth 100000 in
theorem witness_row (os : Os) {H : Type} (enc : TypeId × Value → H) :
    (OpenSpec.ofChange Rows.cstBytesSpec).preRow enc Tryd.prog Tryd.f6 Rows.cstBytesRow.domain false Rows.cstBytesRow.laid ((laidWorld os).forCall (fun _ _ => 0) ⟨#[], #[.agg #[.int .i64 0, .int .i64 0, .int .i64 0, .int .i64 0, .slice none 0 0, .string ⟨#[]⟩, .slice none 0 0]], []⟩).memory #[.agg #[.int .i64 0, .int .i64 0, .int .i64 0, .int .i64 0, .slice none 0 0, .string ⟨#[]⟩, .slice none 0 0]] := by
  have hw : (DataW.whole enc Tryd.prog ((laidWorld os).forCall (fun _ _ => 0) ⟨#[], #[.agg #[.int .i64 0, .int .i64 0, .int .i64 0, .int .i64 0, .slice none 0 0, .string ⟨#[]⟩, .slice none 0 0]], []⟩).memory Tryd.f6.params.toList (OpenSpec.ofChange Rows.cstBytesSpec).vars false (#[.agg #[.int .i64 0, .int .i64 0, .int .i64 0, .int .i64 0, .slice none 0 0, .string ⟨#[]⟩, .slice none 0 0]] : Array Value).toList 8).map (fun x => (x.1, x.2.1)) =
      some ([.agg [.lit (.int .i64 0), .lit (.int .i64 0), .lit (.int .i64 0), .lit (.int .i64 0), .nil, .lit (.string []), .nil]], []) := by kernel_rfl
  obtain ⟨⟨x1, x2, x3⟩, hx, hx1⟩ := Option.map_eq_some_iff.1 hw
  simp only [Prod.mk.injEq] at hx1
  obtain ⟨rfl, rfl⟩ := hx1
  exact OpenSpec.preRow_of_cond 8 hx (by kernel_rfl) (fun k hk => by cases hk) (by kernel_rfl) (laid_met os _)
set_option maxRecDepth 100000 in
set_option maxHeartbeats 2000000 in
theorem lifted (os : Os) (started : os.Started) (H : Type) (enc : TypeId × Value → H) (F : Stop.Interp) :
    ReturnsInHanded {} Tryd.checked os 6 .any ((OpenSpec.ofChange Rows.cstBytesSpec).preRow enc Tryd.prog Tryd.f6 Rows.cstBytesRow.domain false Rows.cstBytesRow.laid) (((OpenSpec.ofChange Rows.cstBytesSpec).at F).post enc Tryd.prog Tryd.f6 false true false false) := by
  refine returnsInHanded_of_row (C := Tryd.checked) (s := (OpenSpec.ofChange Rows.cstBytesSpec)) own started (by kernel_rfl) Tryd.func6
    (witness_row_at (enc := enc) (C := Tryd.checked) false (laidWorld os) #[.agg #[.int .i64 0, .int .i64 0, .int .i64 0, .int .i64 0, .slice none 0 0, .string ⟨#[]⟩, .slice none 0 0]] rfl (by kernel_rfl) (by kernel_rfl) (by kernel_rfl) (witness_row os enc)) ?_
  intro W base args ds gs before hval0 hW _ hcond0 hsz0 hL hsh _
  have hsz : (DataW.weightsEach Tryd.prog (Tryd.f6.params.toList ++ (OpenSpec.ofChange Rows.cstBytesSpec).bare.plain.varTypes Tryd.prog) (ds ++ gs)).all (· ≤ reachBytes) = true := hsz0
  have hval : ∀ (j : Nat) t v, Tryd.f6.params[j]? = some t → args[j]? = some v → Value.okWide Tryd.prog W .any base t v := hval0
  have hW' := hW
  obtain ⟨p, q, hA0, hV0, rfl, _, _⟩ := hW
  have hA : DataW.TrodAll enc Tryd.prog W 0 (fun _ => true) true Tryd.f6.params.toList args.toList ds p := hA0
  rw [Tryd.params6] at hA hval hsz
  obtain ⟨v0, vs0, d0, ds0, p0, q0, hargs, rfl, rfl, h0, r0⟩ := trodAll_cons hA
  obtain ⟨rfl, rfl, rfl⟩ := trodAll_nil r0
  obtain rfl : args = #[v0] := by cases args; simp_all
  obtain ⟨rfl, rfl⟩ := trodVars_none hV0
  have hlt : ∀ x ∈ p0 ++ ([]), x.block < W.heap.size := fun x hx => by simpa using hW'.lt x (by simpa using hx)
  obtain ⟨c0, rfl, hc0⟩ := okWide_struct Tryd.underlying26 (hval 0 26 v0 rfl rfl)
  obtain ⟨a0, hK0, ok0_, sz0_⟩ := Opens.of (fun b => opens_k26 b) hsz (j := 0) (t := 26) rfl rfl h0
  obtain ⟨A0_4, c0_4, A0_6, c0_6, e0_, l0_4, g0_4, l0_6, g0_6⟩ := k26_open hK0
  obtain rfl : c0 = #[.int .i64 a0.f0, .int .i64 a0.f1, .int .i64 a0.f2, .int .i64 a0.f3, .slice A0_4 a0.f4.length c0_4, .string a0.f5, .slice A0_6 a0.f6.length c0_6] := by cases c0; simp_all [Value.cells]
  have hgw : GW W := gw_of hsh (Go.Lib.laidMet.reads hL (List.Mem.tail _ (List.Mem.tail _ (List.Mem.head _)))) (Go.Lib.laidMet.reads hL (List.Mem.tail _ (List.Mem.tail _ (List.Mem.tail _ (List.Mem.tail _ (List.Mem.head _)))))) (Go.Lib.laidMet.reads hL (List.Mem.tail _ (List.Mem.tail _ (List.Mem.tail _ (List.Mem.head _))))) (Go.Lib.laidMet.reads hL (List.Mem.tail _ (List.Mem.head _)))
  clear hcond0 hsz0 hA0 hV0 hval0
  obtain ⟨k, hf⟩ := Pure.CstBytes a0 ok0_
  refine (arboristlaw42_CstBytes.calls k a0.f0 a0.f1 a0.f2 a0.f3 _ _ a0.f4 a0.f5 _ _ a0.f6 true W hgw g0_4 l0_4 g0_6 l0_6 hf).mono fun e W' ⟨he, bel⟩ => ?_
  subst he
  exact ⟨_, rfl, _, _, _, [], _, [], hW', trodAll_mk1 (shut_bool Tryd.underlying4 _), (trodAll_cons_mk (Below.trod laidOut (by kernel_rfl) (of_decide_eq_true (by kernel_rfl)) h0 bel (fun x hx => hlt x (by simp [hx]))) trodAll_mk0), rfl, bel.frame _, fun h => by cases h⟩
set_option maxRecDepth 100000 in
theorem holds : Rows.cstBytesRow.holds Tryd.pinned (OpenSpec.ofChange Rows.cstBytesSpec) :=
  OpenClaim.holds_of_cond 6 Tryd.f6 rfl rfl rfl rfl rfl rfl rfl ⟨rfl, rfl, rfl, rfl, rfl⟩ rfl rfl rfl rfl rfl (by kernel_rfl) Tryd.func6 (by kernel_rfl)
    (of_decide_eq_true (by kernel_rfl)) (by unfold Func.isWrapper; first | (rw [if_pos (by decide +kernel)]; kernel_rfl) | (rw [if_neg (by decide +kernel)]; exact ⟨rfl, rfl⟩))
    (fun os started H enc _ F0 => by rw [OpenClaim.pre_eq_preRow]; exact lifted os started H enc F0)
set_option maxRecDepth 100000 in
theorem card : Rows.CstBytesCardSaid :=
  Claim7.holds_tied_plain_at .later [] [.data, .data, .data, .data, .pinned] true (true, "d5cdaa30bb89ef6c8005c66b0274befb33d87d1f4327f431305be44b4451cda0") false
    holds (fun _ h => by cases h) (by kernel_rfl) (fun _ h => by cases h) cstBytes_row_tie rfl ⟨rfl, rfl⟩ (by kernel_rfl) rfl
    (fun f fn hf hfn => by
      obtain rfl : f = 6 := Option.some.inj ((show Tryd.prog.funcNamed "arborist/arboristlaw42.CstBytes" = some 6 by kernel_rfl).symm.trans hf) |>.symm
      obtain rfl : fn = Tryd.f6 := (Option.some.inj (Tryd.func6.symm.trans hfn)).symm
      exact ⟨by kernel_rfl, fun j t ht => by
        rw [Tryd.params6] at ht
        rcases j with _ | j
        · obtain rfl : t = 26 := by simpa using ht.symm
          kernel_rfl
        · simp at ht⟩)
    (by kernel_rfl)
#print axioms card
end Go.Proofs.YtphmgaijkdflnaaDoor.H.cstBytes
namespace Go.Proofs.YtphmgaijkdflnaaDoor
theorem cstBytes_card : Rows.CstBytesCardSaid := H.cstBytes.card
#print axioms cstBytes_card
end Go.Proofs.YtphmgaijkdflnaaDoor
end
