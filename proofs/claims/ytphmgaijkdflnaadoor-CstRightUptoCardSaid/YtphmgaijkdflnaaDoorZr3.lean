/- A part (3 of 7) of this proof: For every grammar and tree that the guards let in and whose bulk lies within the bound, CstRight returns true: Right and Show of package cst agree with the reference. -/
import Derived.Lib.OthersKept
import Derived.Lib.RuneBytes
import Derived.Lib.RuneLoops
import Derived.Lib.RuneCountTail
import Derived.Lib.TrimU
import Derived.Lib.QuoteLoop
import Derived.Laws.RangeAny
import Derived.Lib.Walk
import Derived.OpenShut
import Derived.Lib.Strings
import Derived.Test.YtphmgaijkdflnaaDoorZr2
section
namespace Go.Proofs.YtphmgaijkdflnaaDoor.H
open Go.RowKit
set_option linter.unusedVariables false
set_option linter.unusedSimpArgs false
set_option maxHeartbeats 8000000
set_option maxRecDepth 100000
section
open Go.Proofs.YtphmgaijkdflnaaDoorW.PrintWords Go.Proofs.YtphmgaijkdflnaaDoorW.PrintLast Go.Proofs.YtphmgaijkdflnaaDoorW.PrintMore
attribute [local go_sem] max2_int min2_int max_two min_two max_three min_three max_four min_four
def cst_rightLead.l0 : Nat → List (S46) → Int → Int → List ByteArray → List ByteArray → List Int → List (S58) → List (S61) → Option (Bool)
 | 0, _, _, _, _, _, _, _, _ => none
 | k + 1, x8, x9, x10, x136000, x136001, x136002, x136003, x136004 => if x10 < x9 then (if 0 ≤ x10 then (if x10 < (x8.length : Int) then (if ((rd_T46 x8 x10).f0) = 1 then (if ((rd_T46 x8 x10).f1) ≥ 0 then (if ((rd_T46 x8 x10).f2).toList = ([] : List UInt8) then (some false) else (cst_rightLead.l0 k x8 x9 (wrap64 (x10 + 1)) x136000 x136001 x136002 x136003 x136004)) else (if ((rd_T46 x8 x10).f0) = 2 then (if ((rd_T46 x8 x10).f1) = (-1) then (if ((rd_T46 x8 x10).f2).toList = ([] : List UInt8) then (some false) else (cst_rightLead.l0 k x8 x9 (wrap64 (x10 + 1)) x136000 x136001 x136002 x136003 x136004)) else (if ((rd_T46 x8 x10).f0) = 3 then (if ((rd_T46 x8 x10).f1) ≥ 2 then (if (((rd_T46 x8 x10).f1) < (x136000.length : Int)) then (if ((rd_T46 x8 x10).f2).toList = ([] : List UInt8) then (some false) else (cst_rightLead.l0 k x8 x9 (wrap64 (x10 + 1)) x136000 x136001 x136002 x136003 x136004)) else (some false)) else (some false)) else (some false))) else (if ((rd_T46 x8 x10).f0) = 3 then (if ((rd_T46 x8 x10).f1) ≥ 2 then (if (((rd_T46 x8 x10).f1) < (x136000.length : Int)) then (if ((rd_T46 x8 x10).f2).toList = ([] : List UInt8) then (some false) else (cst_rightLead.l0 k x8 x9 (wrap64 (x10 + 1)) x136000 x136001 x136002 x136003 x136004)) else (some false)) else (some false)) else (some false)))) else (if ((rd_T46 x8 x10).f0) = 2 then (if ((rd_T46 x8 x10).f1) = (-1) then (if ((rd_T46 x8 x10).f2).toList = ([] : List UInt8) then (some false) else (cst_rightLead.l0 k x8 x9 (wrap64 (x10 + 1)) x136000 x136001 x136002 x136003 x136004)) else (if ((rd_T46 x8 x10).f0) = 3 then (if ((rd_T46 x8 x10).f1) ≥ 2 then (if (((rd_T46 x8 x10).f1) < (x136000.length : Int)) then (if ((rd_T46 x8 x10).f2).toList = ([] : List UInt8) then (some false) else (cst_rightLead.l0 k x8 x9 (wrap64 (x10 + 1)) x136000 x136001 x136002 x136003 x136004)) else (some false)) else (some false)) else (some false))) else (if ((rd_T46 x8 x10).f0) = 3 then (if ((rd_T46 x8 x10).f1) ≥ 2 then (if (((rd_T46 x8 x10).f1) < (x136000.length : Int)) then (if ((rd_T46 x8 x10).f2).toList = ([] : List UInt8) then (some false) else (cst_rightLead.l0 k x8 x9 (wrap64 (x10 + 1)) x136000 x136001 x136002 x136003 x136004)) else (some false)) else (some false)) else (some false)))) else (none)) else (none)) else (some true)
def cst_rightLead.f (k : Nat) (l0_0 : List ByteArray) (l0_1 : List ByteArray) (l0_2 : List Int) (l0_3 : List (S58)) (l0_4 : List (S61)) (l1 : List (S46)) : Option (Bool) := cst_rightLead.l0 k l1 (l1.length : Int) 0 l0_0 l0_1 l0_2 l0_3 l0_4
theorem cst_rightLead.mono_l : ∀ k, (∀ y0 y1 y2 y3 y4 y5 y6 y7, LeO (cst_rightLead.l0 k y0 y1 y2 y3 y4 y5 y6 y7) (cst_rightLead.l0 (k + 1) y0 y1 y2 y3 y4 y5 y6 y7))
 | 0 => fun _ _ _ _ _ _ _ _ r h => by simp [cst_rightLead.l0] at h
 | k + 1 => by
  have ih0 := cst_rightLead.mono_l k
  ·intro y0 y1 y2 y3 y4 y5 y6 y7
   (unfold cst_rightLead.l0); exact qL
theorem cst_rightLead.mono : ∀ a0 a1 a2 a3 a4 a5 k, LeO (cst_rightLead.f k a0 a1 a2 a3 a4 a5) (cst_rightLead.f (k + 1) a0 a1 a2 a3 a4 a5) := by
 (intro a0 a1 a2 a3 a4 a5 k); have ih0 := cst_rightLead.mono_l k; (unfold cst_rightLead.f); exact qL
theorem cst_rightLead.calls (k : Nat) (A0_0 : Option Addr) (c0_0 : Nat) (l0_0 : List ByteArray) (A0_1 : Option Addr) (c0_1 : Nat) (l0_1 : List ByteArray) (A0_2 : Option Addr) (c0_2 : Nat) (l0_2 : List Int) (A0_3 : Option Addr) (c0_3 : Nat) (l0_3 : List (S58)) (A0_4 : Option Addr) (c0_4 : Nat) (l0_4 : List (S61)) (A1 : Option Addr) (c1 : Nat) (l1 : List (S46)) (r : Bool) (w : World) (hr0_0 : Kd.C Kd.string w A0_0 l0_0.length l0_0) (hc0_0 : l0_0.length ≤ c0_0) (hr0_1 : Kd.C Kd.string w A0_1 l0_1.length l0_1) (hc0_1 : l0_1.length ≤ c0_1) (hr0_2 : Kd.C (Kd.int .i64) w A0_2 l0_2.length l0_2) (hc0_2 : l0_2.length ≤ c0_2) (hr0_3 : Kd.C k58 w A0_3 l0_3.length l0_3) (hc0_3 : l0_3.length ≤ c0_3) (hr0_4 : Kd.C k61 w A0_4 l0_4.length l0_4) (hc0_4 : l0_4.length ≤ c0_4) (hr1 : Kd.C k46 w A1 l1.length l1) (hc1 : l1.length ≤ c1) (h : cst_rightLead.f k l0_0 l0_1 l0_2 l0_3 l0_4 l1 = some r) :
  Calls Tryd.prog 56 #[.agg #[.slice A0_0 l0_0.length c0_0, .slice A0_1 l0_1.length c0_1, .slice A0_2 l0_2.length c0_2, .slice A0_3 l0_3.length c0_3, .slice A0_4 l0_4.length c0_4], .slice A1 l1.length c1] w fun e w' => e = .returned (.bool r) ∧ Below w.heap.size w w' := by
 have hu40 := Tryd.underlying40; have hu46 := Tryd.underlying46; have HR0_0 := qM hr0_0; have HC0_0 := qM hc0_0; clear hr0_0 hc0_0; have HR0_1 := qM hr0_1; have HC0_1 := qM hc0_1; clear hr0_1 hc0_1; have HR0_2 := qM hr0_2; have HC0_2 := qM hc0_2; clear hr0_2 hc0_2; have HR0_3 := qM hr0_3; have HC0_3 := qM hc0_3; clear hr0_3 hc0_3; have HR0_4 := qM hr0_4; have HC0_4 := qM hc0_4; clear hr0_4 hc0_4; have HR1 := qM hr1; have HC1 := qM hc1; clear hr1 hc1; have HB := qM (Below.refl w.heap.size w); have H : (cst_rightLead.l0 k l1 (l1.length : Int) 0 l0_0 l0_1 l0_2 l0_3 l0_4) = some r := h; clear h; have H' := qM H; clear H; (go_enter Tryd.func56, Tryd.ntmps56)
 go_wp2_with (first | ((with_reducible refine gate_dst (N := 2) rfl ?_); (try (refine gate_guard (by rfl) ?_; dsimp only)); refine box_event ?hg (N := 2) ?hd (cs := #[.slice A0_0 l0_0.length c0_0, .slice A0_1 l0_1.length c0_1, .slice A0_2 l0_2.length c0_2, .slice A0_3 l0_3.length c0_3, .slice A0_4 l0_4.length c0_4]) (t := 40) ?hr ?_; (case hd | hg => rfl); (case hr => first | (go_simp; done) | (go_simp; rfl)); intro gb135 hg w3 hbox hb; have BK135 := qM (hbox); have GW135 := qM (qG hg); have GE135 := GW135; replace HB := qM (qP qF hb); clear hb hbox hg))
 go_loopg [10] k (fun kq v10 w' => ∃ (x10_1 : Int), v10 = .int .i64 x10_1 ∧ Aside0 (cst_rightLead.l0 kq l1 (l1.length : Int) x10_1 l0_0 l0_1 l0_2 l0_3 l0_4 = some r) ∧ Aside0 (kq ≤ k) ∧ Aside0 (w'.heap[gb135]? = some (.cells #[(.slice A0_0 l0_0.length c0_0), (.slice A0_1 l0_1.length c0_1), (.slice A0_2 l0_2.length c0_2), (.slice A0_3 l0_3.length c0_3), (.slice A0_4 l0_4.length c0_4)] 40 (0, 0))) ∧ Aside0 (Below w.heap.size w w'))
 case atStart => exact ⟨(0), qV, H', ⟨Nat.le_refl _⟩, ⟨qK⟩, ⟨qF⟩⟩
 case round =>
  (clear H'); (try clear c1); (try clear p2); obtain ⟨x10_1, rfl, HA, HK1, BK135, HB⟩ := hrel
  cases gk with
  | zero => exact absurd HA.out (by simp [cst_rightLead.l0])
  | succ k1 =>
   have H := HA.out; clear HA; (simp only [cst_rightLead.l0] at H); (refine iteD ?_ ?_ H <;> clear H <;> intro c4b0 H)
   ·refine iteN ?_ H
    clear H; (intro c5b0 H); have p136 : 0 ≤ (x10_1 : Int) := qo qX; have q136 : x10_1 < (l1.length : Int) := qo qX; obtain ⟨ad136, e136, hx136_0, hx136_1, hx136_2⟩ := at_T46 HR1.out x10_1 p136 q136
    cases e136
    replace hx136_0 := qv HB.out hx136_0; replace hx136_1 := qv HB.out hx136_1; replace hx136_2 := qv HB.out hx136_2; replace p136 := eq_true p136; replace q136 := eq_true q136; refine iteN ?_ H; clear H; (intro c6b0 H); (refine iteE ?_ ?_ H <;> clear H <;> intro c7b0 c7b1 H)
    ·refine iteR ?_ ?_ H <;> clear H <;> intro c8 H
     ·have c8b0 : decide (0 ≤ ((rd_T46 l1 x10_1).f1)) = true := decide_eq_true c8
      clear c8; have HH_ := qM H; clear H
      go_upto_region 4 with (first | ((with_reducible refine gate_dst (N := 6) rfl ?_); (try (refine gate_guard (by rfl) ?_; dsimp only)); refine box_event ?hg (N := 6) ?hd (cs := #[.int .i64 0, .int .i64 0, .string (⟨#[]⟩ : ByteArray)]) (t := 46) ?hr ?_; (case hd | hg => rfl); (case hr => first | (go_simp; done) | (go_simp; rfl)); intro gb137 hg w10 hbox hb; have BK137 := qM (hbox); have GW137 := qM (qG hg); have GE137 := GW137; have NB135_137 := qM ((by rw [hg]; exact Nat.ne_of_lt (ql (g := gb135) qK) : gb135 ≠ gb137)); have NB137_135 := qM (Ne.symm NB135_137.out); replace BK135 := qM (qb (g := gb135) qK hb); replace HB := qM (qP qF hb); clear hb hbox hg; have hnb11 := NB137_135.out; have hnc11 := NB135_137.out; have hz12 := bx3 BK137.out))
      have H := HH_.out; clear HH_; (refine iteE ?_ ?_ H <;> clear H <;> intro c9b0 c9b1 H)
      ·obtain rfl := Option.some.inj H
       go_wp2; (go_ret); exact ⟨qE, qF⟩
      ·intro c9
       have H' := qM H; clear H; go_wp2; (go_roundg k1)
       case measure => have := HK1.out; omega
       case rel => exact ⟨(wrap64 (x10_1 + 1)), qV, H', ⟨by have := HK1.out; omega⟩, ⟨qK⟩, ⟨qF⟩⟩
     ·have c8b0 : decide (0 ≤ ((rd_T46 l1 x10_1).f1)) = false := decide_eq_false c8
      clear c8; (refine iteE ?_ ?_ H <;> clear H <;> intro c16b0 c16b1 H)
      ·refine iteE ?_ ?_ H <;> clear H <;> intro c17b0 c17b1 H
       ·have HH_ := qM H
        clear H
        go_upto_region 4 with (first | ((with_reducible refine gate_dst (N := 6) rfl ?_); (try (refine gate_guard (by rfl) ?_; dsimp only)); refine box_event ?hg (N := 6) ?hd (cs := #[.int .i64 0, .int .i64 0, .string (⟨#[]⟩ : ByteArray)]) (t := 46) ?hr ?_; (case hd | hg => rfl); (case hr => first | (go_simp; done) | (go_simp; rfl)); intro gb137 hg w19 hbox hb; have BK137 := qM (hbox); have GW137 := qM (qG hg); have GE137 := GW137; have NB135_137 := qM ((by rw [hg]; exact Nat.ne_of_lt (ql (g := gb135) qK) : gb135 ≠ gb137)); have NB137_135 := qM (Ne.symm NB135_137.out); replace BK135 := qM (qb (g := gb135) qK hb); replace HB := qM (qP qF hb); clear hb hbox hg; have hnb20 := NB137_135.out; have hnc20 := NB135_137.out; have hz21 := bx3 BK137.out))
        have H := HH_.out; clear HH_; (refine iteE ?_ ?_ H <;> clear H <;> intro c18b0 c18b1 H)
        ·obtain rfl := Option.some.inj H
         go_wp2; (go_ret); exact ⟨qE, qF⟩
        ·intro c18
         have H' := qM H; clear H; go_wp2; (go_roundg k1)
         case measure => have := HK1.out; omega
         case rel => exact ⟨(wrap64 (x10_1 + 1)), qV, H', ⟨by have := HK1.out; omega⟩, ⟨qK⟩, ⟨qF⟩⟩
       ·intro c17
        refine iteE ?_ ?_ H <;> clear H <;> intro c25b0 c25b1 H
        ·refine iteR ?_ ?_ H <;> clear H <;> intro c26 H
         ·have c26b0 : decide (2 ≤ ((rd_T46 l1 x10_1).f1)) = true := decide_eq_true c26
          clear c26; have HH_ := qM H; clear H
          go_upto_region 4 with (first | ((with_reducible refine gate_dst (N := 6) rfl ?_); (try (refine gate_guard (by rfl) ?_; dsimp only)); refine box_event ?hg (N := 6) ?hd (cs := #[.int .i64 0, .int .i64 0, .string (⟨#[]⟩ : ByteArray)]) (t := 46) ?hr ?_; (case hd | hg => rfl); (case hr => first | (go_simp; done) | (go_simp; rfl)); intro gb137 hg w29 hbox hb; have BK137 := qM (hbox); have GW137 := qM (qG hg); have GE137 := GW137; have NB135_137 := qM ((by rw [hg]; exact Nat.ne_of_lt (ql (g := gb135) qK) : gb135 ≠ gb137)); have NB137_135 := qM (Ne.symm NB135_137.out); replace BK135 := qM (qb (g := gb135) qK hb); replace HB := qM (qP qF hb); clear hb hbox hg; have hnb30 := NB137_135.out; have hnc30 := NB135_137.out; have hz31 := bx3 BK137.out; have hz32 := bx5 BK135.out))
          have H := HH_.out; clear HH_; (refine iteR ?_ ?_ H <;> clear H <;> intro c27 H)
          ·have c27b0 : decide (((rd_T46 l1 x10_1).f1) < (l0_0.length : Int)) = true := decide_eq_true c27
           clear c27; (refine iteE ?_ ?_ H <;> clear H <;> intro c28b0 c28b1 H)
           ·obtain rfl := Option.some.inj H
            go_wp2; (go_ret); exact ⟨qE, qF⟩
           ·intro c28
            have H' := qM H; clear H; go_wp2; (go_roundg k1)
            case measure => have := HK1.out; omega
            case rel => exact ⟨(wrap64 (x10_1 + 1)), qV, H', ⟨by have := HK1.out; omega⟩, ⟨qK⟩, ⟨qF⟩⟩
          ·have c27b0 : decide (((rd_T46 l1 x10_1).f1) < (l0_0.length : Int)) = false := decide_eq_false c27
           clear c27; obtain rfl := Option.some.inj H; go_wp2; (go_ret); exact ⟨qE, qF⟩
         ·have c26b0 : decide (2 ≤ ((rd_T46 l1 x10_1).f1)) = false := decide_eq_false c26
          clear c26; obtain rfl := Option.some.inj H
          go_wp2_with (first | ((with_reducible refine gate_dst (N := 6) rfl ?_); (try (refine gate_guard (by rfl) ?_; dsimp only)); refine box_event ?hg (N := 6) ?hd (cs := #[.int .i64 0, .int .i64 0, .string (⟨#[]⟩ : ByteArray)]) (t := 46) ?hr ?_; (case hd | hg => rfl); (case hr => first | (go_simp; done) | (go_simp; rfl)); intro gb137 hg w41 hbox hb; have BK137 := qM (hbox); have GW137 := qM (qG hg); have GE137 := GW137; have NB135_137 := qM ((by rw [hg]; exact Nat.ne_of_lt (ql (g := gb135) qK) : gb135 ≠ gb137)); have NB137_135 := qM (Ne.symm NB135_137.out); replace BK135 := qM (qb (g := gb135) qK hb); replace HB := qM (qP qF hb); clear hb hbox hg; have hnb42 := NB137_135.out; have hnc42 := NB135_137.out; have hz43 := bx3 BK137.out))
          (go_ret); exact ⟨qE, qF⟩
        ·intro c25
         obtain rfl := Option.some.inj H
         go_wp2_with (first | ((with_reducible refine gate_dst (N := 6) rfl ?_); (try (refine gate_guard (by rfl) ?_; dsimp only)); refine box_event ?hg (N := 6) ?hd (cs := #[.int .i64 0, .int .i64 0, .string (⟨#[]⟩ : ByteArray)]) (t := 46) ?hr ?_; (case hd | hg => rfl); (case hr => first | (go_simp; done) | (go_simp; rfl)); intro gb137 hg w44 hbox hb; have BK137 := qM (hbox); have GW137 := qM (qG hg); have GE137 := GW137; have NB135_137 := qM ((by rw [hg]; exact Nat.ne_of_lt (ql (g := gb135) qK) : gb135 ≠ gb137)); have NB137_135 := qM (Ne.symm NB135_137.out); replace BK135 := qM (qb (g := gb135) qK hb); replace HB := qM (qP qF hb); clear hb hbox hg; have hnb45 := NB137_135.out; have hnc45 := NB135_137.out; have hz46 := bx3 BK137.out))
         (go_ret); exact ⟨qE, qF⟩
      ·intro c16
       refine iteE ?_ ?_ H <;> clear H <;> intro c47b0 c47b1 H
       ·refine iteR ?_ ?_ H <;> clear H <;> intro c48 H
        ·have c48b0 : decide (2 ≤ ((rd_T46 l1 x10_1).f1)) = true := decide_eq_true c48
         clear c48; have HH_ := qM H; clear H
         go_upto_region 4 with (first | ((with_reducible refine gate_dst (N := 6) rfl ?_); (try (refine gate_guard (by rfl) ?_; dsimp only)); refine box_event ?hg (N := 6) ?hd (cs := #[.int .i64 0, .int .i64 0, .string (⟨#[]⟩ : ByteArray)]) (t := 46) ?hr ?_; (case hd | hg => rfl); (case hr => first | (go_simp; done) | (go_simp; rfl)); intro gb137 hg w51 hbox hb; have BK137 := qM (hbox); have GW137 := qM (qG hg); have GE137 := GW137; have NB135_137 := qM ((by rw [hg]; exact Nat.ne_of_lt (ql (g := gb135) qK) : gb135 ≠ gb137)); have NB137_135 := qM (Ne.symm NB135_137.out); replace BK135 := qM (qb (g := gb135) qK hb); replace HB := qM (qP qF hb); clear hb hbox hg; have hnb52 := NB137_135.out; have hnc52 := NB135_137.out; have hz53 := bx3 BK137.out; have hz54 := bx5 BK135.out))
         have H := HH_.out; clear HH_; (refine iteR ?_ ?_ H <;> clear H <;> intro c49 H)
         ·have c49b0 : decide (((rd_T46 l1 x10_1).f1) < (l0_0.length : Int)) = true := decide_eq_true c49
          clear c49; (refine iteE ?_ ?_ H <;> clear H <;> intro c50b0 c50b1 H)
          ·obtain rfl := Option.some.inj H
           go_wp2; (go_ret); exact ⟨qE, qF⟩
          ·intro c50
           have H' := qM H; clear H; go_wp2; (go_roundg k1)
           case measure => have := HK1.out; omega
           case rel => exact ⟨(wrap64 (x10_1 + 1)), qV, H', ⟨by have := HK1.out; omega⟩, ⟨qK⟩, ⟨qF⟩⟩
         ·have c49b0 : decide (((rd_T46 l1 x10_1).f1) < (l0_0.length : Int)) = false := decide_eq_false c49
          clear c49; obtain rfl := Option.some.inj H; go_wp2; (go_ret); exact ⟨qE, qF⟩
        ·have c48b0 : decide (2 ≤ ((rd_T46 l1 x10_1).f1)) = false := decide_eq_false c48
         clear c48; obtain rfl := Option.some.inj H
         go_wp2_with (first | ((with_reducible refine gate_dst (N := 6) rfl ?_); (try (refine gate_guard (by rfl) ?_; dsimp only)); refine box_event ?hg (N := 6) ?hd (cs := #[.int .i64 0, .int .i64 0, .string (⟨#[]⟩ : ByteArray)]) (t := 46) ?hr ?_; (case hd | hg => rfl); (case hr => first | (go_simp; done) | (go_simp; rfl)); intro gb137 hg w63 hbox hb; have BK137 := qM (hbox); have GW137 := qM (qG hg); have GE137 := GW137; have NB135_137 := qM ((by rw [hg]; exact Nat.ne_of_lt (ql (g := gb135) qK) : gb135 ≠ gb137)); have NB137_135 := qM (Ne.symm NB135_137.out); replace BK135 := qM (qb (g := gb135) qK hb); replace HB := qM (qP qF hb); clear hb hbox hg; have hnb64 := NB137_135.out; have hnc64 := NB135_137.out; have hz65 := bx3 BK137.out))
         (go_ret); exact ⟨qE, qF⟩
       ·intro c47
        obtain rfl := Option.some.inj H
        go_wp2_with (first | ((with_reducible refine gate_dst (N := 6) rfl ?_); (try (refine gate_guard (by rfl) ?_; dsimp only)); refine box_event ?hg (N := 6) ?hd (cs := #[.int .i64 0, .int .i64 0, .string (⟨#[]⟩ : ByteArray)]) (t := 46) ?hr ?_; (case hd | hg => rfl); (case hr => first | (go_simp; done) | (go_simp; rfl)); intro gb137 hg w66 hbox hb; have BK137 := qM (hbox); have GW137 := qM (qG hg); have GE137 := GW137; have NB135_137 := qM ((by rw [hg]; exact Nat.ne_of_lt (ql (g := gb135) qK) : gb135 ≠ gb137)); have NB137_135 := qM (Ne.symm NB135_137.out); replace BK135 := qM (qb (g := gb135) qK hb); replace HB := qM (qP qF hb); clear hb hbox hg; have hnb67 := NB137_135.out; have hnc67 := NB135_137.out; have hz68 := bx3 BK137.out))
        (go_ret); exact ⟨qE, qF⟩
    ·intro c7
     refine iteE ?_ ?_ H <;> clear H <;> intro c69b0 c69b1 H
     ·refine iteE ?_ ?_ H <;> clear H <;> intro c70b0 c70b1 H
      ·have HH_ := qM H
       clear H
       go_upto_region 4 with (first | ((with_reducible refine gate_dst (N := 6) rfl ?_); (try (refine gate_guard (by rfl) ?_; dsimp only)); refine box_event ?hg (N := 6) ?hd (cs := #[.int .i64 0, .int .i64 0, .string (⟨#[]⟩ : ByteArray)]) (t := 46) ?hr ?_; (case hd | hg => rfl); (case hr => first | (go_simp; done) | (go_simp; rfl)); intro gb137 hg w72 hbox hb; have BK137 := qM (hbox); have GW137 := qM (qG hg); have GE137 := GW137; have NB135_137 := qM ((by rw [hg]; exact Nat.ne_of_lt (ql (g := gb135) qK) : gb135 ≠ gb137)); have NB137_135 := qM (Ne.symm NB135_137.out); replace BK135 := qM (qb (g := gb135) qK hb); replace HB := qM (qP qF hb); clear hb hbox hg; have hnb73 := NB137_135.out; have hnc73 := NB135_137.out; have hz74 := bx3 BK137.out))
       have H := HH_.out; clear HH_; (refine iteE ?_ ?_ H <;> clear H <;> intro c71b0 c71b1 H)
       ·obtain rfl := Option.some.inj H
        go_wp2; (go_ret); exact ⟨qE, qF⟩
       ·intro c71
        have H' := qM H; clear H; go_wp2; (go_roundg k1)
        case measure => have := HK1.out; omega
        case rel => exact ⟨(wrap64 (x10_1 + 1)), qV, H', ⟨by have := HK1.out; omega⟩, ⟨qK⟩, ⟨qF⟩⟩
      ·intro c70
       refine iteE ?_ ?_ H <;> clear H <;> intro c78b0 c78b1 H
       ·refine iteR ?_ ?_ H <;> clear H <;> intro c79 H
        ·have c79b0 : decide (2 ≤ ((rd_T46 l1 x10_1).f1)) = true := decide_eq_true c79
         clear c79; have HH_ := qM H; clear H
         go_upto_region 4 with (first | ((with_reducible refine gate_dst (N := 6) rfl ?_); (try (refine gate_guard (by rfl) ?_; dsimp only)); refine box_event ?hg (N := 6) ?hd (cs := #[.int .i64 0, .int .i64 0, .string (⟨#[]⟩ : ByteArray)]) (t := 46) ?hr ?_; (case hd | hg => rfl); (case hr => first | (go_simp; done) | (go_simp; rfl)); intro gb137 hg w82 hbox hb; have BK137 := qM (hbox); have GW137 := qM (qG hg); have GE137 := GW137; have NB135_137 := qM ((by rw [hg]; exact Nat.ne_of_lt (ql (g := gb135) qK) : gb135 ≠ gb137)); have NB137_135 := qM (Ne.symm NB135_137.out); replace BK135 := qM (qb (g := gb135) qK hb); replace HB := qM (qP qF hb); clear hb hbox hg; have hnb83 := NB137_135.out; have hnc83 := NB135_137.out; have hz84 := bx3 BK137.out; have hz85 := bx5 BK135.out))
         have H := HH_.out; clear HH_; (refine iteR ?_ ?_ H <;> clear H <;> intro c80 H)
         ·have c80b0 : decide (((rd_T46 l1 x10_1).f1) < (l0_0.length : Int)) = true := decide_eq_true c80
          clear c80; (refine iteE ?_ ?_ H <;> clear H <;> intro c81b0 c81b1 H)
          ·obtain rfl := Option.some.inj H
           go_wp2; (go_ret); exact ⟨qE, qF⟩
          ·intro c81
           have H' := qM H; clear H; go_wp2; (go_roundg k1)
           case measure => have := HK1.out; omega
           case rel => exact ⟨(wrap64 (x10_1 + 1)), qV, H', ⟨by have := HK1.out; omega⟩, ⟨qK⟩, ⟨qF⟩⟩
         ·have c80b0 : decide (((rd_T46 l1 x10_1).f1) < (l0_0.length : Int)) = false := decide_eq_false c80
          clear c80; obtain rfl := Option.some.inj H; go_wp2; (go_ret); exact ⟨qE, qF⟩
        ·have c79b0 : decide (2 ≤ ((rd_T46 l1 x10_1).f1)) = false := decide_eq_false c79
         clear c79; obtain rfl := Option.some.inj H
         go_wp2_with (first | ((with_reducible refine gate_dst (N := 6) rfl ?_); (try (refine gate_guard (by rfl) ?_; dsimp only)); refine box_event ?hg (N := 6) ?hd (cs := #[.int .i64 0, .int .i64 0, .string (⟨#[]⟩ : ByteArray)]) (t := 46) ?hr ?_; (case hd | hg => rfl); (case hr => first | (go_simp; done) | (go_simp; rfl)); intro gb137 hg w94 hbox hb; have BK137 := qM (hbox); have GW137 := qM (qG hg); have GE137 := GW137; have NB135_137 := qM ((by rw [hg]; exact Nat.ne_of_lt (ql (g := gb135) qK) : gb135 ≠ gb137)); have NB137_135 := qM (Ne.symm NB135_137.out); replace BK135 := qM (qb (g := gb135) qK hb); replace HB := qM (qP qF hb); clear hb hbox hg; have hnb95 := NB137_135.out; have hnc95 := NB135_137.out; have hz96 := bx3 BK137.out))
         (go_ret); exact ⟨qE, qF⟩
       ·intro c78
        obtain rfl := Option.some.inj H
        go_wp2_with (first | ((with_reducible refine gate_dst (N := 6) rfl ?_); (try (refine gate_guard (by rfl) ?_; dsimp only)); refine box_event ?hg (N := 6) ?hd (cs := #[.int .i64 0, .int .i64 0, .string (⟨#[]⟩ : ByteArray)]) (t := 46) ?hr ?_; (case hd | hg => rfl); (case hr => first | (go_simp; done) | (go_simp; rfl)); intro gb137 hg w97 hbox hb; have BK137 := qM (hbox); have GW137 := qM (qG hg); have GE137 := GW137; have NB135_137 := qM ((by rw [hg]; exact Nat.ne_of_lt (ql (g := gb135) qK) : gb135 ≠ gb137)); have NB137_135 := qM (Ne.symm NB135_137.out); replace BK135 := qM (qb (g := gb135) qK hb); replace HB := qM (qP qF hb); clear hb hbox hg; have hnb98 := NB137_135.out; have hnc98 := NB135_137.out; have hz99 := bx3 BK137.out))
        (go_ret); exact ⟨qE, qF⟩
     ·intro c69
      refine iteE ?_ ?_ H <;> clear H <;> intro c100b0 c100b1 H
      ·refine iteR ?_ ?_ H <;> clear H <;> intro c101 H
       ·have c101b0 : decide (2 ≤ ((rd_T46 l1 x10_1).f1)) = true := decide_eq_true c101
        clear c101; have HH_ := qM H; clear H
        go_upto_region 4 with (first | ((with_reducible refine gate_dst (N := 6) rfl ?_); (try (refine gate_guard (by rfl) ?_; dsimp only)); refine box_event ?hg (N := 6) ?hd (cs := #[.int .i64 0, .int .i64 0, .string (⟨#[]⟩ : ByteArray)]) (t := 46) ?hr ?_; (case hd | hg => rfl); (case hr => first | (go_simp; done) | (go_simp; rfl)); intro gb137 hg w104 hbox hb; have BK137 := qM (hbox); have GW137 := qM (qG hg); have GE137 := GW137; have NB135_137 := qM ((by rw [hg]; exact Nat.ne_of_lt (ql (g := gb135) qK) : gb135 ≠ gb137)); have NB137_135 := qM (Ne.symm NB135_137.out); replace BK135 := qM (qb (g := gb135) qK hb); replace HB := qM (qP qF hb); clear hb hbox hg; have hnb105 := NB137_135.out; have hnc105 := NB135_137.out; have hz106 := bx3 BK137.out; have hz107 := bx5 BK135.out))
        have H := HH_.out; clear HH_; (refine iteR ?_ ?_ H <;> clear H <;> intro c102 H)
        ·have c102b0 : decide (((rd_T46 l1 x10_1).f1) < (l0_0.length : Int)) = true := decide_eq_true c102
         clear c102; (refine iteE ?_ ?_ H <;> clear H <;> intro c103b0 c103b1 H)
         ·obtain rfl := Option.some.inj H
          go_wp2; (go_ret); exact ⟨qE, qF⟩
         ·intro c103
          have H' := qM H; clear H; go_wp2; (go_roundg k1)
          case measure => have := HK1.out; omega
          case rel => exact ⟨(wrap64 (x10_1 + 1)), qV, H', ⟨by have := HK1.out; omega⟩, ⟨qK⟩, ⟨qF⟩⟩
        ·have c102b0 : decide (((rd_T46 l1 x10_1).f1) < (l0_0.length : Int)) = false := decide_eq_false c102
         clear c102; obtain rfl := Option.some.inj H; go_wp2; (go_ret); exact ⟨qE, qF⟩
       ·have c101b0 : decide (2 ≤ ((rd_T46 l1 x10_1).f1)) = false := decide_eq_false c101
        clear c101; obtain rfl := Option.some.inj H
        go_wp2_with (first | ((with_reducible refine gate_dst (N := 6) rfl ?_); (try (refine gate_guard (by rfl) ?_; dsimp only)); refine box_event ?hg (N := 6) ?hd (cs := #[.int .i64 0, .int .i64 0, .string (⟨#[]⟩ : ByteArray)]) (t := 46) ?hr ?_; (case hd | hg => rfl); (case hr => first | (go_simp; done) | (go_simp; rfl)); intro gb137 hg w116 hbox hb; have BK137 := qM (hbox); have GW137 := qM (qG hg); have GE137 := GW137; have NB135_137 := qM ((by rw [hg]; exact Nat.ne_of_lt (ql (g := gb135) qK) : gb135 ≠ gb137)); have NB137_135 := qM (Ne.symm NB135_137.out); replace BK135 := qM (qb (g := gb135) qK hb); replace HB := qM (qP qF hb); clear hb hbox hg; have hnb117 := NB137_135.out; have hnc117 := NB135_137.out; have hz118 := bx3 BK137.out))
        (go_ret); exact ⟨qE, qF⟩
      ·intro c100
       obtain rfl := Option.some.inj H
       go_wp2_with (first | ((with_reducible refine gate_dst (N := 6) rfl ?_); (try (refine gate_guard (by rfl) ?_; dsimp only)); refine box_event ?hg (N := 6) ?hd (cs := #[.int .i64 0, .int .i64 0, .string (⟨#[]⟩ : ByteArray)]) (t := 46) ?hr ?_; (case hd | hg => rfl); (case hr => first | (go_simp; done) | (go_simp; rfl)); intro gb137 hg w119 hbox hb; have BK137 := qM (hbox); have GW137 := qM (qG hg); have GE137 := GW137; have NB135_137 := qM ((by rw [hg]; exact Nat.ne_of_lt (ql (g := gb135) qK) : gb135 ≠ gb137)); have NB137_135 := qM (Ne.symm NB135_137.out); replace BK135 := qM (qb (g := gb135) qK hb); replace HB := qM (qP qF hb); clear hb hbox hg; have hnb120 := NB137_135.out; have hnc120 := NB135_137.out; have hz121 := bx3 BK137.out))
       (go_ret); exact ⟨qE, qF⟩
   ·obtain rfl := Option.some.inj H
    go_wp2; (go_ret); exact ⟨qE, qF⟩
def cst_rightLeaf.j0 : Nat → Bool → List ByteArray → List ByteArray → List Int → List (S58) → List (S61) → Int → Int → Int → Int → List (S46) → ByteArray → List (S26) → Option (Bool)
 | 0, _, _, _, _, _, _, _, _, _, _, _, _, _ => none
 | k + 1, x26, x139000, x139001, x139002, x139003, x139004, x140000, x140001, x140002, x140003, x140004, x140005, x140006 => if x26 = true then (some false) else (if x140003 = 1 then (if x140000 = 0 then (some false) else (if (x140004.length : Int) = 0 then (some (x140005.toList == ([] : List UInt8))) else (some false))) else (if x140003 = 0 then (if ((x140005.toList == ([] : List UInt8)) == (x140000 == 0)) = true then ((cst_rightLead.f k x139000 x139001 x139002 x139003 x139004 x140004).bind fun t140 => (some t140)) else (some false)) else (some false)))
def cst_rightLeaf.f (k : Nat) (l0_0 : List ByteArray) (l0_1 : List ByteArray) (l0_2 : List Int) (l0_3 : List (S58)) (l0_4 : List (S61)) (a1_0 : Int) (a1_1 : Int) (a1_2 : Int) (a1_3 : Int) (l1_4 : List (S46)) (a1_5 : ByteArray) (l1_6 : List (S26)) : Option (Bool) := if a1_1 = (-1) then (if (l1_6.length : Int) > 0 then (cst_rightLeaf.j0 k true l0_0 l0_1 l0_2 l0_3 l0_4 a1_0 a1_1 a1_2 a1_3 l1_4 a1_5 l1_6) else (if a1_0 ≥ (l0_0.length : Int) then (cst_rightLeaf.j0 k true l0_0 l0_1 l0_2 l0_3 l0_4 a1_0 a1_1 a1_2 a1_3 l1_4 a1_5 l1_6) else (cst_rightLeaf.j0 k (a1_0 == 1) l0_0 l0_1 l0_2 l0_3 l0_4 a1_0 a1_1 a1_2 a1_3 l1_4 a1_5 l1_6))) else (cst_rightLeaf.j0 k true l0_0 l0_1 l0_2 l0_3 l0_4 a1_0 a1_1 a1_2 a1_3 l1_4 a1_5 l1_6)
theorem cst_rightLeaf.mono_l : ∀ k, (∀ y0 y1 y2 y3 y4 y5 y6 y7 y8 y9 y10 y11 y12, LeO (cst_rightLeaf.j0 k y0 y1 y2 y3 y4 y5 y6 y7 y8 y9 y10 y11 y12) (cst_rightLeaf.j0 (k + 1) y0 y1 y2 y3 y4 y5 y6 y7 y8 y9 y10 y11 y12))
 | 0 => fun _ _ _ _ _ _ _ _ _ _ _ _ _ r h => by simp [cst_rightLeaf.j0] at h
 | k + 1 => by
  have ih0 := cst_rightLeaf.mono_l k
  ·intro y0 y1 y2 y3 y4 y5 y6 y7 y8 y9 y10 y11 y12
   (unfold cst_rightLeaf.j0); have mo0 := cst_rightLead.mono; exact qL
theorem cst_rightLeaf.mono : ∀ a0 a1 a2 a3 a4 a5 a6 a7 a8 a9 a10 a11 k, LeO (cst_rightLeaf.f k a0 a1 a2 a3 a4 a5 a6 a7 a8 a9 a10 a11) (cst_rightLeaf.f (k + 1) a0 a1 a2 a3 a4 a5 a6 a7 a8 a9 a10 a11) := by
 (intro a0 a1 a2 a3 a4 a5 a6 a7 a8 a9 a10 a11 k); have ih0 := cst_rightLeaf.mono_l k; (unfold cst_rightLeaf.f); have mo0 := cst_rightLead.mono; exact qL
theorem cst_rightLeaf.calls (k : Nat) (A0_0 : Option Addr) (c0_0 : Nat) (l0_0 : List ByteArray) (A0_1 : Option Addr) (c0_1 : Nat) (l0_1 : List ByteArray) (A0_2 : Option Addr) (c0_2 : Nat) (l0_2 : List Int) (A0_3 : Option Addr) (c0_3 : Nat) (l0_3 : List (S58)) (A0_4 : Option Addr) (c0_4 : Nat) (l0_4 : List (S61)) (a1_0 : Int) (a1_1 : Int) (a1_2 : Int) (a1_3 : Int) (A1_4 : Option Addr) (c1_4 : Nat) (l1_4 : List (S46)) (a1_5 : ByteArray) (A1_6 : Option Addr) (c1_6 : Nat) (l1_6 : List (S26)) (r : Bool) (w : World) (hr0_0 : Kd.C Kd.string w A0_0 l0_0.length l0_0) (hc0_0 : l0_0.length ≤ c0_0) (hr0_1 : Kd.C Kd.string w A0_1 l0_1.length l0_1) (hc0_1 : l0_1.length ≤ c0_1) (hr0_2 : Kd.C (Kd.int .i64) w A0_2 l0_2.length l0_2) (hc0_2 : l0_2.length ≤ c0_2) (hr0_3 : Kd.C k58 w A0_3 l0_3.length l0_3) (hc0_3 : l0_3.length ≤ c0_3) (hr0_4 : Kd.C k61 w A0_4 l0_4.length l0_4) (hc0_4 : l0_4.length ≤ c0_4) (hr1_4 : Kd.C k46 w A1_4 l1_4.length l1_4) (hc1_4 : l1_4.length ≤ c1_4) (hr1_6 : Kd.C k26 w A1_6 l1_6.length l1_6) (hc1_6 : l1_6.length ≤ c1_6) (h : cst_rightLeaf.f k l0_0 l0_1 l0_2 l0_3 l0_4 a1_0 a1_1 a1_2 a1_3 l1_4 a1_5 l1_6 = some r) :
  Calls Tryd.prog 39 #[.agg #[.slice A0_0 l0_0.length c0_0, .slice A0_1 l0_1.length c0_1, .slice A0_2 l0_2.length c0_2, .slice A0_3 l0_3.length c0_3, .slice A0_4 l0_4.length c0_4], .agg #[.int .i64 a1_0, .int .i64 a1_1, .int .i64 a1_2, .int .i64 a1_3, .slice A1_4 l1_4.length c1_4, .string a1_5, .slice A1_6 l1_6.length c1_6]] w fun e w' => e = .returned (.bool r) ∧ Below w.heap.size w w' := by
 have hu40 := Tryd.underlying40; have hu26 := Tryd.underlying26; have HR0_0 := qM hr0_0; have HC0_0 := qM hc0_0; clear hr0_0 hc0_0; have HR0_1 := qM hr0_1; have HC0_1 := qM hc0_1; clear hr0_1 hc0_1; have HR0_2 := qM hr0_2; have HC0_2 := qM hc0_2; clear hr0_2 hc0_2; have HR0_3 := qM hr0_3; have HC0_3 := qM hc0_3; clear hr0_3 hc0_3; have HR0_4 := qM hr0_4; have HC0_4 := qM hc0_4; clear hr0_4 hc0_4; have HR1_4 := qM hr1_4; have HC1_4 := qM hc1_4; clear hr1_4 hc1_4; have HR1_6 := qM hr1_6; have HC1_6 := qM hc1_6; clear hr1_6 hc1_6; have HB := qM (Below.refl w.heap.size w); have H : (if a1_1 = (-1) then (if (l1_6.length : Int) > 0 then (cst_rightLeaf.j0 k true l0_0 l0_1 l0_2 l0_3 l0_4 a1_0 a1_1 a1_2 a1_3 l1_4 a1_5 l1_6) else (if a1_0 ≥ (l0_0.length : Int) then (cst_rightLeaf.j0 k true l0_0 l0_1 l0_2 l0_3 l0_4 a1_0 a1_1 a1_2 a1_3 l1_4 a1_5 l1_6) else (cst_rightLeaf.j0 k (a1_0 == 1) l0_0 l0_1 l0_2 l0_3 l0_4 a1_0 a1_1 a1_2 a1_3 l1_4 a1_5 l1_6))) else (cst_rightLeaf.j0 k true l0_0 l0_1 l0_2 l0_3 l0_4 a1_0 a1_1 a1_2 a1_3 l1_4 a1_5 l1_6)) = some r := h; clear h; have HC3 := qM H; clear H; (go_enter Tryd.func39, Tryd.ntmps39)
 go_upto_region 1 with (first | ((with_reducible refine gate_dst (N := 2) rfl ?_); (try (refine gate_guard (by rfl) ?_; dsimp only)); refine box_event ?hg (N := 2) ?hd (cs := #[.slice A0_0 l0_0.length c0_0, .slice A0_1 l0_1.length c0_1, .slice A0_2 l0_2.length c0_2, .slice A0_3 l0_3.length c0_3, .slice A0_4 l0_4.length c0_4]) (t := 40) ?hr ?_; (case hd | hg => rfl); (case hr => first | (go_simp; done) | (go_simp; rfl)); intro gb138 hg w4 hbox hb; have BK138 := qM (hbox); have GW138 := qM (qG hg); have GE138 := GW138; replace HB := qM (qP qF hb); clear hb hbox hg) | ((with_reducible refine gate_dst (N := 3) rfl ?_); (try (refine gate_guard (by rfl) ?_; dsimp only)); refine box_event ?hg (N := 3) ?hd (cs := #[.int .i64 a1_0, .int .i64 a1_1, .int .i64 a1_2, .int .i64 a1_3, .slice A1_4 l1_4.length c1_4, .string a1_5, .slice A1_6 l1_6.length c1_6]) (t := 26) ?hr ?_; (case hd | hg => rfl); (case hr => first | (go_simp; done) | (go_simp; rfl)); intro gb139 hg w5 hbox hb; have BK139 := qM (hbox); have GW139 := qM (qG hg); have GE139 := GW139; have NB138_139 := qM ((by rw [hg]; exact Nat.ne_of_lt (ql (g := gb138) qK) : gb138 ≠ gb139)); have NB139_138 := qM (Ne.symm NB138_139.out); replace BK138 := qM (qb (g := gb138) qK hb); replace HB := qM (qP qF hb); clear hb hbox hg))
 (try simp only [Act.put, List.setIfInBounds_toArray, List.set_cons_zero, List.set_cons_succ]); (go_cut [26] (fun v26 wc => ∃ (kq : Nat) (x26_2 : Bool), v26 = .bool x26_2 ∧ Aside0 (cst_rightLeaf.j0 kq x26_2 l0_0 l0_1 l0_2 l0_3 l0_4 a1_0 a1_1 a1_2 a1_3 l1_4 a1_5 l1_6 = some r) ∧ Aside0 (kq ≤ k) ∧ Aside0 (wc.heap[gb138]? = some (.cells #[(.slice A0_0 l0_0.length c0_0), (.slice A0_1 l0_1.length c0_1), (.slice A0_2 l0_2.length c0_2), (.slice A0_3 l0_3.length c0_3), (.slice A0_4 l0_4.length c0_4)] 40 (0, 0))) ∧ Aside0 (wc.heap[gb139]? = some (.cells #[.int .i64 a1_0, .int .i64 a1_1, .int .i64 a1_2, .int .i64 a1_3, (.slice A1_4 l1_4.length c1_4), .string a1_5, (.slice A1_6 l1_6.length c1_6)] 26 (0, 0))) ∧ Aside0 (Below w.heap.size w wc)))
 case first =>
  have H := HC3.out; clear HC3; have hnb8 := NB139_138.out; have hnc8 := NB138_139.out; have hz9 := bx7 BK139.out; (refine iteE ?_ ?_ H <;> clear H <;> intro c6b0 c6b1 H)
  ·(first | rw [c6b0] | (simp only [i64_w, i32_w]; rw [c6b0]) | skip)
   refine iteR ?_ ?_ H <;> clear H <;> intro c7 H
   ·have c7b0 : decide (0 < (l1_6.length : Int)) = true := decide_eq_true c7
    have c7b1 : decide (0 < l1_6.length) = true := decide_eq_true (by omega); clear c7; have H' := qM H; clear H; go_wp2; go_meet
    case rel => exact ⟨_, (true), qV, H', ⟨by first | omega | exact Nat.le_refl _⟩, ⟨qK⟩, ⟨qK⟩, ⟨qF⟩⟩
   ·have c7b0 : decide (0 < (l1_6.length : Int)) = false := decide_eq_false c7
    have c7b1 : decide (0 < l1_6.length) = false := decide_eq_false (by omega); clear c7; have hz13 := bx5 BK138.out; (refine iteR ?_ ?_ H <;> clear H <;> intro c10 H)
    ·have c10b0 : decide ((l0_0.length : Int) ≤ a1_0) = true := decide_eq_true c10
     clear c10; have H' := qM H; clear H; go_wp2; go_meet
     case rel => exact ⟨_, (true), qV, H', ⟨by first | omega | exact Nat.le_refl _⟩, ⟨qK⟩, ⟨qK⟩, ⟨qF⟩⟩
    ·have c10b0 : decide ((l0_0.length : Int) ≤ a1_0) = false := decide_eq_false c10
     clear c10; have H' := qM H; clear H; go_wp2; go_meet
     case rel => exact ⟨_, ((a1_0 == 1)), qV, H', ⟨by first | omega | exact Nat.le_refl _⟩, ⟨qK⟩, ⟨qK⟩, ⟨qF⟩⟩
  ·intro c6
   (first | rw [c6b0] | (simp only [i64_w, i32_w]; rw [c6b0]) | skip); have H' := qM H; clear H; go_wp2; go_meet
   case rel => exact ⟨_, (true), qV, H', ⟨by first | omega | exact Nat.le_refl _⟩, ⟨qK⟩, ⟨qK⟩, ⟨qF⟩⟩
 case rest =>
  clear HC3; (try clear c1); (try clear p2); (try clear c3); (try clear c6); (try clear c6b0); (try clear c6b1); (try clear c7); (try clear c7b0); (try clear c7b1); (try clear c8); (try clear c10); (try clear c10b0); (try clear c11); (try clear c14); (try clear c17); (try clear hz13); (try clear hz9); obtain ⟨kq, x26_2, rfl, HA, HJ2, BK138, BK139, HB⟩ := hcut
  cases kq with
  | zero => exact absurd HA.out (by simp [cst_rightLeaf.j0])
  | succ kj2 =>
   have H := HA.out; clear HA; (simp only [cst_rightLeaf.j0] at H); (refine iteR ?_ ?_ H <;> clear H <;> intro c19 H)
   ·subst c19
    obtain rfl := Option.some.inj H; go_wp2; (go_ret); exact ⟨qE, qF⟩
   ·replace c19 := Bool.eq_false_iff.mpr c19
    subst c19; have hnb22 := NB139_138.out; have hnc22 := NB138_139.out; have hz23 := bx7 BK139.out; (refine iteE ?_ ?_ H <;> clear H <;> intro c20b0 c20b1 H)
    ·refine iteE ?_ ?_ H <;> clear H <;> intro c21b0 c21b1 H
     ·obtain rfl := Option.some.inj H
      go_wp2; (go_ret); exact ⟨qE, qF⟩
     ·intro c21
      refine iteE ?_ ?_ H <;> clear H <;> intro c24b0 c24b1 H
      ·obtain rfl := Option.some.inj H
       go_wp2; (go_ret); exact ⟨qE, qF⟩
      ·intro c24
       (have c24b2 : ¬ (l1_4 = []) := fun h_ => c24 (by rw [h_]; rfl)); obtain rfl := Option.some.inj H; go_wp2; (go_ret); exact ⟨qE, qF⟩
    ·intro c20
     refine iteE ?_ ?_ H <;> clear H <;> intro c29b0 c29b1 H
     ·refine iteR ?_ ?_ H <;> clear H <;> intro c30 H
      ·have c30b0 : ((a1_5.toList == ([] : List UInt8)) == (a1_0 == 0)) = true := c30
       (have c30b0e : (a1_5.toList.isEmpty == (a1_0 == 0)) = true := by rw [show a1_5.toList.isEmpty = (a1_5.toList == ([] : List UInt8)) from by cases a1_5.toList <;> rfl]; exact c30b0); (try (have c30b1 : decide ((a1_5.toList == ([] : List UInt8)) = (a1_0 == 0)) = true := by simpa using c30)); (try (have c30b2 : ((a1_5.toList == ([] : List UInt8)) == (a1_0 == 0)) = true := by simpa using c30)); clear c30; replace H := Option.bind_eq_some_iff.mp H; obtain ⟨t140, A310, H⟩ := H; replace H : (some t140) = some r := H; have A31 := qM A310; clear A310; obtain rfl := Option.some.inj H; have hz34 := bx5 BK138.out
       go_wp2_with (first | (go_at_call 56; (with_reducible refine (cst_rightLead.calls kj2 _ _ l0_0 _ _ l0_1 _ _ l0_2 _ _ l0_3 _ _ l0_4 _ _ l1_4 t140 _ ?side1 ?side2 ?side3 ?side4 ?side5 ?side6 ?side7 ?side8 ?side9 ?side10 ?side11 ?side12 A31.out).mono ?_); (case side1 | side3 | side5 | side7 | side9 | side11 => exact qY); (case side2 | side4 | side6 | side8 | side10 | side12 => exact qO); rintro e w35 ⟨rfl, hb⟩; replace BK138 := qM (qb (g := gb138) qK hb); replace BK139 := qM (qb (g := gb139) qK hb); replace HB := qM (qP qF hb); (try clear hb); (try clear hb2); (try clear hk); (try clear hi)))
       (go_ret); exact ⟨qE, qF⟩
      ·have c30b0 : ((a1_5.toList == ([] : List UInt8)) == (a1_0 == 0)) = false := by simpa using c30
       (have c30b0e : (a1_5.toList.isEmpty == (a1_0 == 0)) = false := by rw [show a1_5.toList.isEmpty = (a1_5.toList == ([] : List UInt8)) from by cases a1_5.toList <;> rfl]; exact c30b0); (try (have c30b1 : decide ((a1_5.toList == ([] : List UInt8)) = (a1_0 == 0)) = false := by simpa using c30)); (try (have c30b2 : ((a1_5.toList == ([] : List UInt8)) == (a1_0 == 0)) = false := by simpa using c30)); (try (have c30b3 : ¬ ((a1_5.toList == ([] : List UInt8)) = (a1_0 == 0)) := by simpa using c30)); clear c30; obtain rfl := Option.some.inj H; go_wp2; (go_ret); exact ⟨qE, qF⟩
     ·intro c29
      obtain rfl := Option.some.inj H; go_wp2; (go_ret); exact ⟨qE, qF⟩
mutual
def cst_rightInner.j0 : Nat → Bool → List ByteArray → List ByteArray → List Int → List (S58) → List (S61) → Int → Int → Int → Int → List (S46) → ByteArray → List (S26) → Option (Bool)
 | 0, _, _, _, _, _, _, _, _, _, _, _, _, _ => none
 | k + 1, x25, x142000, x142001, x142002, x142003, x142004, x143000, x143001, x143002, x143003, x143004, x143005, x143006 => if x25 = true then (some false) else (if x143003 = 2 then (some (x143001 == (-1))) else (if x143003 = 0 then (if x143001 < 0 then (cst_rightInner.j1 k true x142000 x142001 x142002 x142003 x142004 x143000 x143001 x143002 x143003 x143004 x143005 x143006) else (cst_rightInner.j1 k (decide (x143001 ≥ (x142003.length : Int))) x142000 x142001 x142002 x142003 x142004 x143000 x143001 x143002 x143003 x143004 x143005 x143006)) else (cst_rightInner.j1 k true x142000 x142001 x142002 x142003 x142004 x143000 x143001 x143002 x143003 x143004 x143005 x143006)))
def cst_rightInner.j1 : Nat → Bool → List ByteArray → List ByteArray → List Int → List (S58) → List (S61) → Int → Int → Int → Int → List (S46) → ByteArray → List (S26) → Option (Bool)
 | 0, _, _, _, _, _, _, _, _, _, _, _, _, _ => none
 | k + 1, x47, x142000, x142001, x142002, x142003, x142004, x143000, x143001, x143002, x143003, x143004, x143005, x143006 => if x47 = true then (some false) else (if 0 ≤ x143001 then (if x143001 < (x142003.length : Int) then (if ((rd_T58 x142003 x143001).f0) = (wrap64 ((-1) - x143000)) then (cst_rightInner.j2 k ((((rd_T58 x142003 x143001).f1).length : Int) != (x143006.length : Int)) x143000 x143001 x143002 x143003 x143004 x143005 x143006 ((rd_T58 x142003 x143001).f0) ((rd_T58 x142003 x143001).f1) ((rd_T58 x142003 x143001).f2) ((rd_T58 x142003 x143001).f3) ((rd_T58 x142003 x143001).f4)) else (cst_rightInner.j2 k true x143000 x143001 x143002 x143003 x143004 x143005 x143006 ((rd_T58 x142003 x143001).f0) ((rd_T58 x142003 x143001).f1) ((rd_T58 x142003 x143001).f2) ((rd_T58 x142003 x143001).f3) ((rd_T58 x142003 x143001).f4))) else (none)) else (none))
def cst_rightInner.j2 : Nat → Bool → Int → Int → Int → Int → List (S46) → ByteArray → List (S26) → Int → List Int → List ByteArray → ByteArray → Int → Option (Bool)
 | 0, _, _, _, _, _, _, _, _, _, _, _, _, _ => none
 | k + 1, x68, x143000, x143001, x143002, x143003, x143004, x143005, x143006, x145000, x145001, x145002, x145003, x145004 => if x68 = true then (some false) else (cst_rightInner.l0 k x145001 (x145001.length : Int) 0 x143000 x143001 x143002 x143003 x143004 x143005 x143006)
def cst_rightInner.l0 : Nat → List Int → Int → Int → Int → Int → Int → Int → List (S46) → ByteArray → List (S26) → Option (Bool)
 | 0, _, _, _, _, _, _, _, _, _, _ => none
 | k + 1, x70, x71, x72, x143000, x143001, x143002, x143003, x143004, x143005, x143006 => if x72 < x71 then (if 0 ≤ x72 then (if x72 < (x70.length : Int) then (if x72 < (x143006.length : Int) then (if ((rd_T26 x143006 x72).f0) = (rd x70 x72) then (cst_rightInner.l0 k x70 x71 (wrap64 (x72 + 1)) x143000 x143001 x143002 x143003 x143004 x143005 x143006) else (some false)) else (none)) else (none)) else (none)) else (some true)
end
def cst_rightInner.f (k : Nat) (l0_0 : List ByteArray) (l0_1 : List ByteArray) (l0_2 : List Int) (l0_3 : List (S58)) (l0_4 : List (S61)) (a1_0 : Int) (a1_1 : Int) (a1_2 : Int) (a1_3 : Int) (l1_4 : List (S46)) (a1_5 : ByteArray) (l1_6 : List (S26)) : Option (Bool) := if (wrap64 ((-1) - a1_0)) ≥ (l0_1.length : Int) then (cst_rightInner.j0 k true l0_0 l0_1 l0_2 l0_3 l0_4 a1_0 a1_1 a1_2 a1_3 l1_4 a1_5 l1_6) else (if (l1_4.length : Int) > 0 then (cst_rightInner.j0 k true l0_0 l0_1 l0_2 l0_3 l0_4 a1_0 a1_1 a1_2 a1_3 l1_4 a1_5 l1_6) else (cst_rightInner.j0 k (a1_5.toList != ([] : List UInt8)) l0_0 l0_1 l0_2 l0_3 l0_4 a1_0 a1_1 a1_2 a1_3 l1_4 a1_5 l1_6))
theorem cst_rightInner.mono_l : ∀ k, (∀ y0 y1 y2 y3 y4 y5 y6 y7 y8 y9 y10 y11 y12, LeO (cst_rightInner.j0 k y0 y1 y2 y3 y4 y5 y6 y7 y8 y9 y10 y11 y12) (cst_rightInner.j0 (k + 1) y0 y1 y2 y3 y4 y5 y6 y7 y8 y9 y10 y11 y12)) ∧ (∀ y0 y1 y2 y3 y4 y5 y6 y7 y8 y9 y10 y11 y12, LeO (cst_rightInner.j1 k y0 y1 y2 y3 y4 y5 y6 y7 y8 y9 y10 y11 y12) (cst_rightInner.j1 (k + 1) y0 y1 y2 y3 y4 y5 y6 y7 y8 y9 y10 y11 y12)) ∧ (∀ y0 y1 y2 y3 y4 y5 y6 y7 y8 y9 y10 y11 y12, LeO (cst_rightInner.j2 k y0 y1 y2 y3 y4 y5 y6 y7 y8 y9 y10 y11 y12) (cst_rightInner.j2 (k + 1) y0 y1 y2 y3 y4 y5 y6 y7 y8 y9 y10 y11 y12)) ∧ (∀ y0 y1 y2 y3 y4 y5 y6 y7 y8 y9, LeO (cst_rightInner.l0 k y0 y1 y2 y3 y4 y5 y6 y7 y8 y9) (cst_rightInner.l0 (k + 1) y0 y1 y2 y3 y4 y5 y6 y7 y8 y9))
 | 0 => ⟨fun _ _ _ _ _ _ _ _ _ _ _ _ _ r h => by simp [cst_rightInner.j0] at h, fun _ _ _ _ _ _ _ _ _ _ _ _ _ r h => by simp [cst_rightInner.j1] at h, fun _ _ _ _ _ _ _ _ _ _ _ _ _ r h => by simp [cst_rightInner.j2] at h, fun _ _ _ _ _ _ _ _ _ _ r h => by simp [cst_rightInner.l0] at h⟩
 | k + 1 => by
  obtain ⟨ih0, ih1, ih2, ih3⟩ := cst_rightInner.mono_l k; refine ⟨?_, ?_, ?_, ?_⟩
  ·intro y0 y1 y2 y3 y4 y5 y6 y7 y8 y9 y10 y11 y12
   (unfold cst_rightInner.j0); exact qL
  ·intro y0 y1 y2 y3 y4 y5 y6 y7 y8 y9 y10 y11 y12
   (unfold cst_rightInner.j1); exact qL
  ·intro y0 y1 y2 y3 y4 y5 y6 y7 y8 y9 y10 y11 y12
   (unfold cst_rightInner.j2); exact qL
  ·intro y0 y1 y2 y3 y4 y5 y6 y7 y8 y9
   (unfold cst_rightInner.l0); exact qL
theorem cst_rightInner.mono : ∀ a0 a1 a2 a3 a4 a5 a6 a7 a8 a9 a10 a11 k, LeO (cst_rightInner.f k a0 a1 a2 a3 a4 a5 a6 a7 a8 a9 a10 a11) (cst_rightInner.f (k + 1) a0 a1 a2 a3 a4 a5 a6 a7 a8 a9 a10 a11) := by
 (intro a0 a1 a2 a3 a4 a5 a6 a7 a8 a9 a10 a11 k); obtain ⟨ih0, ih1, ih2, ih3⟩ := cst_rightInner.mono_l k; (unfold cst_rightInner.f); exact qL
theorem cst_rightInner.calls (k : Nat) (A0_0 : Option Addr) (c0_0 : Nat) (l0_0 : List ByteArray) (A0_1 : Option Addr) (c0_1 : Nat) (l0_1 : List ByteArray) (A0_2 : Option Addr) (c0_2 : Nat) (l0_2 : List Int) (A0_3 : Option Addr) (c0_3 : Nat) (l0_3 : List (S58)) (A0_4 : Option Addr) (c0_4 : Nat) (l0_4 : List (S61)) (a1_0 : Int) (a1_1 : Int) (a1_2 : Int) (a1_3 : Int) (A1_4 : Option Addr) (c1_4 : Nat) (l1_4 : List (S46)) (a1_5 : ByteArray) (A1_6 : Option Addr) (c1_6 : Nat) (l1_6 : List (S26)) (r : Bool) (w : World) (hr0_0 : Kd.C Kd.string w A0_0 l0_0.length l0_0) (hc0_0 : l0_0.length ≤ c0_0) (hr0_1 : Kd.C Kd.string w A0_1 l0_1.length l0_1) (hc0_1 : l0_1.length ≤ c0_1) (hr0_2 : Kd.C (Kd.int .i64) w A0_2 l0_2.length l0_2) (hc0_2 : l0_2.length ≤ c0_2) (hr0_3 : Kd.C k58 w A0_3 l0_3.length l0_3) (hc0_3 : l0_3.length ≤ c0_3) (hr0_4 : Kd.C k61 w A0_4 l0_4.length l0_4) (hc0_4 : l0_4.length ≤ c0_4) (hr1_4 : Kd.C k46 w A1_4 l1_4.length l1_4) (hc1_4 : l1_4.length ≤ c1_4) (hr1_6 : Kd.C k26 w A1_6 l1_6.length l1_6) (hc1_6 : l1_6.length ≤ c1_6) (h : cst_rightInner.f k l0_0 l0_1 l0_2 l0_3 l0_4 a1_0 a1_1 a1_2 a1_3 l1_4 a1_5 l1_6 = some r) :
  Calls Tryd.prog 40 #[.agg #[.slice A0_0 l0_0.length c0_0, .slice A0_1 l0_1.length c0_1, .slice A0_2 l0_2.length c0_2, .slice A0_3 l0_3.length c0_3, .slice A0_4 l0_4.length c0_4], .agg #[.int .i64 a1_0, .int .i64 a1_1, .int .i64 a1_2, .int .i64 a1_3, .slice A1_4 l1_4.length c1_4, .string a1_5, .slice A1_6 l1_6.length c1_6]] w fun e w' => e = .returned (.bool r) ∧ Below w.heap.size w w' := by
 have hu40 := Tryd.underlying40; have hu26 := Tryd.underlying26; have hu58 := Tryd.underlying58; have HR0_0 := qM hr0_0; have HC0_0 := qM hc0_0; clear hr0_0 hc0_0; have HR0_1 := qM hr0_1; have HC0_1 := qM hc0_1; clear hr0_1 hc0_1; have HR0_2 := qM hr0_2; have HC0_2 := qM hc0_2; clear hr0_2 hc0_2; have HR0_3 := qM hr0_3; have HC0_3 := qM hc0_3; clear hr0_3 hc0_3; have HR0_4 := qM hr0_4; have HC0_4 := qM hc0_4; clear hr0_4 hc0_4; have HR1_4 := qM hr1_4; have HC1_4 := qM hc1_4; clear hr1_4 hc1_4; have HR1_6 := qM hr1_6; have HC1_6 := qM hc1_6; clear hr1_6 hc1_6; have HB := qM (Below.refl w.heap.size w); have H : (if (wrap64 ((-1) - a1_0)) ≥ (l0_1.length : Int) then (cst_rightInner.j0 k true l0_0 l0_1 l0_2 l0_3 l0_4 a1_0 a1_1 a1_2 a1_3 l1_4 a1_5 l1_6) else (if (l1_4.length : Int) > 0 then (cst_rightInner.j0 k true l0_0 l0_1 l0_2 l0_3 l0_4 a1_0 a1_1 a1_2 a1_3 l1_4 a1_5 l1_6) else (cst_rightInner.j0 k (a1_5.toList != ([] : List UInt8)) l0_0 l0_1 l0_2 l0_3 l0_4 a1_0 a1_1 a1_2 a1_3 l1_4 a1_5 l1_6))) = some r := h; clear h; have HC3 := qM H; clear H; (go_enter Tryd.func40, Tryd.ntmps40)
 go_upto_region 1 with (first | ((with_reducible refine gate_dst (N := 2) rfl ?_); (try (refine gate_guard (by rfl) ?_; dsimp only)); refine box_event ?hg (N := 2) ?hd (cs := #[.slice A0_0 l0_0.length c0_0, .slice A0_1 l0_1.length c0_1, .slice A0_2 l0_2.length c0_2, .slice A0_3 l0_3.length c0_3, .slice A0_4 l0_4.length c0_4]) (t := 40) ?hr ?_; (case hd | hg => rfl); (case hr => first | (go_simp; done) | (go_simp; rfl)); intro gb141 hg w4 hbox hb; have BK141 := qM (hbox); have GW141 := qM (qG hg); have GE141 := GW141; replace HB := qM (qP qF hb); clear hb hbox hg) | ((with_reducible refine gate_dst (N := 3) rfl ?_); (try (refine gate_guard (by rfl) ?_; dsimp only)); refine box_event ?hg (N := 3) ?hd (cs := #[.int .i64 a1_0, .int .i64 a1_1, .int .i64 a1_2, .int .i64 a1_3, .slice A1_4 l1_4.length c1_4, .string a1_5, .slice A1_6 l1_6.length c1_6]) (t := 26) ?hr ?_; (case hd | hg => rfl); (case hr => first | (go_simp; done) | (go_simp; rfl)); intro gb142 hg w5 hbox hb; have BK142 := qM (hbox); have GW142 := qM (qG hg); have GE142 := GW142; have NB141_142 := qM ((by rw [hg]; exact Nat.ne_of_lt (ql (g := gb141) qK) : gb141 ≠ gb142)); have NB142_141 := qM (Ne.symm NB141_142.out); replace BK141 := qM (qb (g := gb141) qK hb); replace HB := qM (qP qF hb); clear hb hbox hg))
 (try simp only [Act.put, List.setIfInBounds_toArray, List.set_cons_zero, List.set_cons_succ]); (go_cut [25] (fun v25 wc => ∃ (kq : Nat) (x25_2 : Bool), v25 = .bool x25_2 ∧ Aside0 (cst_rightInner.j0 kq x25_2 l0_0 l0_1 l0_2 l0_3 l0_4 a1_0 a1_1 a1_2 a1_3 l1_4 a1_5 l1_6 = some r) ∧ Aside0 (kq ≤ k) ∧ Aside0 (wc.heap[gb141]? = some (.cells #[(.slice A0_0 l0_0.length c0_0), (.slice A0_1 l0_1.length c0_1), (.slice A0_2 l0_2.length c0_2), (.slice A0_3 l0_3.length c0_3), (.slice A0_4 l0_4.length c0_4)] 40 (0, 0))) ∧ Aside0 (wc.heap[gb142]? = some (.cells #[.int .i64 a1_0, .int .i64 a1_1, .int .i64 a1_2, .int .i64 a1_3, (.slice A1_4 l1_4.length c1_4), .string a1_5, (.slice A1_6 l1_6.length c1_6)] 26 (0, 0))) ∧ Aside0 (Below w.heap.size w wc)))
 case first =>
  have H := HC3.out; clear HC3; have hnb7 := NB142_141.out; have hnc7 := NB141_142.out; have hz8 := bx7 BK142.out; have hz9 := bx5 BK141.out; (refine iteR ?_ ?_ H <;> clear H <;> intro c6 H)
  ·have c6b0 : decide ((l0_1.length : Int) ≤ (wrap64 ((-1) - a1_0))) = true := decide_eq_true c6
   clear c6; (first | rw [c6b0] | (simp only [i64_w, i32_w]; rw [c6b0]) | skip); have H' := qM H; clear H; go_wp2; go_meet
   case rel => exact ⟨_, (true), qV, H', ⟨by first | omega | exact Nat.le_refl _⟩, ⟨qK⟩, ⟨qK⟩, ⟨qF⟩⟩
  ·have c6b0 : decide ((l0_1.length : Int) ≤ (wrap64 ((-1) - a1_0))) = false := decide_eq_false c6
   clear c6; (first | rw [c6b0] | (simp only [i64_w, i32_w]; rw [c6b0]) | skip); (refine iteR ?_ ?_ H <;> clear H <;> intro c10 H)
   ·have c10b0 : decide (0 < (l1_4.length : Int)) = true := decide_eq_true c10
    have c10b1 : decide (0 < l1_4.length) = true := decide_eq_true (by omega); clear c10; have H' := qM H; clear H; go_wp2; go_meet
    case rel => exact ⟨_, (true), qV, H', ⟨by first | omega | exact Nat.le_refl _⟩, ⟨qK⟩, ⟨qK⟩, ⟨qF⟩⟩
   ·have c10b0 : decide (0 < (l1_4.length : Int)) = false := decide_eq_false c10
    have c10b1 : decide (0 < l1_4.length) = false := decide_eq_false (by omega); clear c10; have H' := qM H; clear H; go_wp2; go_meet
    case rel => exact ⟨_, ((a1_5.toList != ([] : List UInt8))), (by first | rfl | (simp; done) | (simp [*]; done) | (simp; exact (by intro l; cases l <;> rfl : ∀ l : List UInt8, l.isEmpty = !(l != [])) _)), H', ⟨by first | omega | exact Nat.le_refl _⟩, ⟨qK⟩, ⟨qK⟩, ⟨qF⟩⟩
 case rest =>
  clear HC3; (try clear c1); (try clear p2); (try clear c4); (try clear c6); (try clear c6b0); (try clear p6); (try clear c7); (try clear c10); (try clear c10b0); (try clear c10b1); (try clear c11); (try clear c14); (try clear hz8); (try clear hz9); obtain ⟨kq, x25_2, rfl, HA, HJ2, BK141, BK142, HB⟩ := hcut
  cases kq with
  | zero => exact absurd HA.out (by simp [cst_rightInner.j0])
  | succ kj2 =>
   have H := HA.out; clear HA; (simp only [cst_rightInner.j0] at H); (refine iteR ?_ ?_ H <;> clear H <;> intro c17 H)
   ·subst c17
    obtain rfl := Option.some.inj H; go_wp2; (go_ret); exact ⟨qE, qF⟩
   ·replace c17 := Bool.eq_false_iff.mpr c17
    subst c17; have hnb19 := NB142_141.out; have hnc19 := NB141_142.out; have hz20 := bx7 BK142.out; (refine iteE ?_ ?_ H <;> clear H <;> intro c18b0 c18b1 H)
    ·obtain rfl := Option.some.inj H
     go_wp2; (go_ret); exact ⟨qE, qF⟩
    ·intro c18
     have HC21 := qM H; clear H; (go_upto_region 5 with (fail)); (go_cut [47] (fun v47 wc => ∃ (kq : Nat) (x47_20 : Bool), v47 = .bool x47_20 ∧ Aside0 (cst_rightInner.j1 kq x47_20 l0_0 l0_1 l0_2 l0_3 l0_4 a1_0 a1_1 a1_2 a1_3 l1_4 a1_5 l1_6 = some r) ∧ Aside0 (kq ≤ kj2) ∧ Aside0 (wc.heap[gb141]? = some (.cells #[(.slice A0_0 l0_0.length c0_0), (.slice A0_1 l0_1.length c0_1), (.slice A0_2 l0_2.length c0_2), (.slice A0_3 l0_3.length c0_3), (.slice A0_4 l0_4.length c0_4)] 40 (0, 0))) ∧ Aside0 (wc.heap[gb142]? = some (.cells #[.int .i64 a1_0, .int .i64 a1_1, .int .i64 a1_2, .int .i64 a1_3, (.slice A1_4 l1_4.length c1_4), .string a1_5, (.slice A1_6 l1_6.length c1_6)] 26 (0, 0))) ∧ Aside0 (Below w.heap.size w wc)))
     case first =>
      have H := HC21.out; clear HC21; have hnb26 := NB142_141.out; have hnc26 := NB141_142.out; have hz27 := bx7 BK142.out; (refine iteE ?_ ?_ H <;> clear H <;> intro c24b0 c24b1 H)
      ·(first | rw [c24b0] | (simp only [i64_w, i32_w]; rw [c24b0]) | skip)
       refine iteD ?_ ?_ H <;> clear H <;> intro c25b0 H
       ·have H' := qM H
        clear H; go_wp2; go_meet
        case rel => exact ⟨_, (true), qV, H', ⟨by have := HJ2.out; first | omega | exact Nat.le_refl _⟩, ⟨qK⟩, ⟨qK⟩, ⟨qF⟩⟩
       ·have H' := qM H
        clear H; have hz30 := bx5 BK141.out; go_wp2; go_meet
        case rel => exact ⟨_, (decide (a1_1 ≥ (l0_3.length : Int))), qV, H', ⟨by have := HJ2.out; first | omega | exact Nat.le_refl _⟩, ⟨qK⟩, ⟨qK⟩, ⟨qF⟩⟩
      ·intro c24
       (first | rw [c24b0] | (simp only [i64_w, i32_w]; rw [c24b0]) | skip); have H' := qM H; clear H; go_wp2; go_meet
       case rel => exact ⟨_, (true), qV, H', ⟨by have := HJ2.out; first | omega | exact Nat.le_refl _⟩, ⟨qK⟩, ⟨qK⟩, ⟨qF⟩⟩
     case rest =>
      clear HC21; (try clear c1); (try clear c2); (try clear p2); (try clear c3); (try clear c4); (try clear c6); (try clear c6b0); (try clear p6); (try clear c7); (try clear c10); (try clear c10b0); (try clear c10b1); (try clear c11); (try clear c14); (try clear c17); (try clear c18); (try clear c18b0); (try clear c18b1); (try clear c19); (try clear c22); (try clear c24); (try clear c24b0); (try clear c24b1); (try clear c25); (try clear c25b0); (try clear c26); (try clear c28); (try clear c31); (try clear hz20); (try clear hz20); (try clear hz27); (try clear hz30); (try clear hz8); (try clear hz9); (try clear p2); (try clear p6); obtain ⟨kq, x47_20, rfl, HA, HJ20, BK141, BK142, HB⟩ := hcut
      cases kq with
      | zero => exact absurd HA.out (by simp [cst_rightInner.j1])
      | succ kj20 =>
       have H := HA.out; clear HA; (simp only [cst_rightInner.j1] at H); (refine iteR ?_ ?_ H <;> clear H <;> intro c33 H)
       ·subst c33
        obtain rfl := Option.some.inj H; go_wp2; (go_ret); exact ⟨qE, qF⟩
       ·replace c33 := Bool.eq_false_iff.mpr c33
        subst c33; refine iteN ?_ H; clear H; (intro c34b0 H); refine iteN ?_ H; clear H; (intro c35b0 H); have HC36 := qM H; clear H; have hnb37 := NB141_142.out; have hnc37 := NB142_141.out; have hz38 := bx5 BK141.out; have hz39 := bx7 BK142.out; have p143 : 0 ≤ (a1_1 : Int) := qo qX; have q143 : a1_1 < (l0_3.length : Int) := qo qX; obtain ⟨ad143, A143_1, c143_1, A143_2, c143_2, e143, hx143_0, hx143_1, hx143_2, hx143_3, hx143_4, hl143_1, hi143_1, hl143_2, hi143_2⟩ := at_T58 HR0_3.out a1_1 p143 q143
        cases e143
        replace hx143_0 := qv HB.out hx143_0; replace hx143_1 := qv HB.out hx143_1; replace hx143_2 := qv HB.out hx143_2; replace hx143_3 := qv HB.out hx143_3; replace hx143_4 := qv HB.out hx143_4; have HR143_1 := qM hi143_1; have HC143_1 := qM hl143_1; clear hi143_1 hl143_1; have HR143_2 := qM hi143_2; have HC143_2 := qM hl143_2; clear hi143_2 hl143_2; replace p143 := eq_true p143; replace q143 := eq_true q143
        go_upto_region 8 with (first | ((with_reducible refine gate_dst (N := 5) rfl ?_); (try (refine gate_guard (by rfl) ?_; dsimp only)); refine box_event ?hg (N := 5) ?hd (cs := #[.int .i64 0, .slice none 0 0, .slice none 0 0, .string (⟨#[]⟩ : ByteArray), .int .i64 0]) (t := 58) ?hr ?_; (case hd | hg => rfl); (case hr => first | (go_simp; done) | (go_simp; rfl)); intro gb144 hg w40 hbox hb; have BK144 := qM (hbox); have GW144 := qM (qG hg); have GE144 := GW144; have NB141_144 := qM ((by rw [hg]; exact Nat.ne_of_lt (ql (g := gb141) qK) : gb141 ≠ gb144)); have NB144_141 := qM (Ne.symm NB141_144.out); have NB142_144 := qM ((by rw [hg]; exact Nat.ne_of_lt (ql (g := gb142) qK) : gb142 ≠ gb144)); have NB144_142 := qM (Ne.symm NB142_144.out); replace BK141 := qM (qb (g := gb141) qK hb); replace BK142 := qM (qb (g := gb142) qK hb); replace HB := qM (qP qF hb); clear hb hbox hg; have hnb41 := NB144_141.out; have hnc41 := NB141_144.out; have hnb42 := NB144_142.out; have hnc42 := NB142_144.out; have hz43 := bx5 BK144.out))
        (try simp only [Act.put, List.setIfInBounds_toArray, List.set_cons_zero, List.set_cons_succ])
        go_cut [68] (fun v68 wc => ∃ (kq : Nat) (x68_35 : Bool), v68 = .bool x68_35 ∧ Aside0 (cst_rightInner.j2 kq x68_35 a1_0 a1_1 a1_2 a1_3 l1_4 a1_5 l1_6 ((rd_T58 l0_3 a1_1).f0) ((rd_T58 l0_3 a1_1).f1) ((rd_T58 l0_3 a1_1).f2) ((rd_T58 l0_3 a1_1).f3) ((rd_T58 l0_3 a1_1).f4) = some r) ∧ Aside0 (kq ≤ kj20) ∧ Aside0 (wc.heap[gb141]? = some (.cells #[(.slice A0_0 l0_0.length c0_0), (.slice A0_1 l0_1.length c0_1), (.slice A0_2 l0_2.length c0_2), (.slice (some ad143) l0_3.length c0_3), (.slice A0_4 l0_4.length c0_4)] 40 (0, 0))) ∧ Aside0 (wc.heap[gb142]? = some (.cells #[.int .i64 a1_0, .int .i64 a1_1, .int .i64 a1_2, .int .i64 a1_3, (.slice A1_4 l1_4.length c1_4), .string a1_5, (.slice A1_6 l1_6.length c1_6)] 26 (0, 0))) ∧ Aside0 (wc.heap[gb144]? = some (.cells #[.int .i64 ((rd_T58 l0_3 a1_1).f0), (.slice A143_1 ((rd_T58 l0_3 a1_1).f1).length c143_1), (.slice A143_2 ((rd_T58 l0_3 a1_1).f2).length c143_2), .string ((rd_T58 l0_3 a1_1).f3), .int .i64 ((rd_T58 l0_3 a1_1).f4)] 58 (0, 0))) ∧ Aside0 (Below w.heap.size w wc))
        case first =>
         have H := HC36.out; clear HC36; have hnb45 := NB144_141.out; have hnc45 := NB141_144.out; have hnb46 := NB144_142.out; have hnc46 := NB142_144.out; have hz47 := bx5 BK144.out; have hnb48 := NB142_141.out; have hnc48 := NB141_142.out; have hz49 := bx7 BK142.out; (refine iteE ?_ ?_ H <;> clear H <;> intro c44b0 c44b1 H)
         ·(first | rw [c44b0] | (simp only [i64_w, i32_w]; rw [c44b0]) | skip)
          have H' := qM H; clear H; go_wp2; go_meet
          case rel => exact ⟨_, (((((rd_T58 l0_3 a1_1).f1).length : Int) != (l1_6.length : Int))), qV, H', ⟨by have := HJ2.out; have := HJ20.out; first | omega | exact Nat.le_refl _⟩, ⟨qK⟩, ⟨qK⟩, ⟨by (with_reducible repeat (first | refine qn ?_ _ | refine qd ?_ | refine qa ?_ _)); refine blk_put (cs := #[.int .i64 ((rd_T58 l0_3 a1_1).f0), .slice A143_1 ((rd_T58 l0_3 a1_1).f1).length c143_1, .slice A143_2 ((rd_T58 l0_3 a1_1).f2).length c143_2, .string ((rd_T58 l0_3 a1_1).f3), .int .i64 0]) ?_ 4 _ rfl; (with_reducible repeat (first | refine qn ?_ _ | refine qd ?_ | refine qa ?_ _)); refine blk_put (cs := #[.int .i64 ((rd_T58 l0_3 a1_1).f0), .slice A143_1 ((rd_T58 l0_3 a1_1).f1).length c143_1, .slice A143_2 ((rd_T58 l0_3 a1_1).f2).length c143_2, .string (⟨#[]⟩ : ByteArray), .int .i64 0]) ?_ 3 _ rfl; (with_reducible repeat (first | refine qn ?_ _ | refine qd ?_ | refine qa ?_ _)); refine blk_put (cs := #[.int .i64 ((rd_T58 l0_3 a1_1).f0), .slice A143_1 ((rd_T58 l0_3 a1_1).f1).length c143_1, .slice none 0 0, .string (⟨#[]⟩ : ByteArray), .int .i64 0]) ?_ 2 _ rfl; (with_reducible repeat (first | refine qn ?_ _ | refine qd ?_ | refine qa ?_ _)); refine blk_put (cs := #[.int .i64 ((rd_T58 l0_3 a1_1).f0), .slice none 0 0, .slice none 0 0, .string (⟨#[]⟩ : ByteArray), .int .i64 0]) ?_ 1 _ rfl; (with_reducible repeat (first | refine qn ?_ _ | refine qd ?_ | refine qa ?_ _)); refine blk_put (cs := #[.int .i64 0, .slice none 0 0, .slice none 0 0, .string (⟨#[]⟩ : ByteArray), .int .i64 0]) ?_ 0 _ rfl; (with_reducible repeat (first | refine qn ?_ _ | refine qd ?_ | refine qa ?_ _)); exact BK144.out⟩, ⟨qF⟩⟩
         ·intro c44
          (first | rw [c44b0] | (simp only [i64_w, i32_w]; rw [c44b0]) | skip); have H' := qM H; clear H; go_wp2; go_meet
          case rel => exact ⟨_, (true), qV, H', ⟨by have := HJ2.out; have := HJ20.out; first | omega | exact Nat.le_refl _⟩, ⟨qK⟩, ⟨qK⟩, ⟨by (with_reducible repeat (first | refine qn ?_ _ | refine qd ?_ | refine qa ?_ _)); refine blk_put (cs := #[.int .i64 ((rd_T58 l0_3 a1_1).f0), .slice A143_1 ((rd_T58 l0_3 a1_1).f1).length c143_1, .slice A143_2 ((rd_T58 l0_3 a1_1).f2).length c143_2, .string ((rd_T58 l0_3 a1_1).f3), .int .i64 0]) ?_ 4 _ rfl; (with_reducible repeat (first | refine qn ?_ _ | refine qd ?_ | refine qa ?_ _)); refine blk_put (cs := #[.int .i64 ((rd_T58 l0_3 a1_1).f0), .slice A143_1 ((rd_T58 l0_3 a1_1).f1).length c143_1, .slice A143_2 ((rd_T58 l0_3 a1_1).f2).length c143_2, .string (⟨#[]⟩ : ByteArray), .int .i64 0]) ?_ 3 _ rfl; (with_reducible repeat (first | refine qn ?_ _ | refine qd ?_ | refine qa ?_ _)); refine blk_put (cs := #[.int .i64 ((rd_T58 l0_3 a1_1).f0), .slice A143_1 ((rd_T58 l0_3 a1_1).f1).length c143_1, .slice none 0 0, .string (⟨#[]⟩ : ByteArray), .int .i64 0]) ?_ 2 _ rfl; (with_reducible repeat (first | refine qn ?_ _ | refine qd ?_ | refine qa ?_ _)); refine blk_put (cs := #[.int .i64 ((rd_T58 l0_3 a1_1).f0), .slice none 0 0, .slice none 0 0, .string (⟨#[]⟩ : ByteArray), .int .i64 0]) ?_ 1 _ rfl; (with_reducible repeat (first | refine qn ?_ _ | refine qd ?_ | refine qa ?_ _)); refine blk_put (cs := #[.int .i64 0, .slice none 0 0, .slice none 0 0, .string (⟨#[]⟩ : ByteArray), .int .i64 0]) ?_ 0 _ rfl; (with_reducible repeat (first | refine qn ?_ _ | refine qd ?_ | refine qa ?_ _)); exact BK144.out⟩, ⟨qF⟩⟩
        case rest =>
         clear HC36; (try clear c1); (try clear p1); (try clear q1); (try clear hx1); (try clear c2); (try clear p2); (try clear c3); (try clear c4); (try clear c5); (try clear c6); (try clear c6b0); (try clear p6); (try clear c7); (try clear c10); (try clear c10b0); (try clear c10b1); (try clear c11); (try clear c14); (try clear p14); (try clear q14); (try clear hx14); (try clear c17); (try clear c18); (try clear c18b0); (try clear c18b1); (try clear c19); (try clear c22); (try clear c24); (try clear c24b0); (try clear c24b1); (try clear c25); (try clear c25b0); (try clear c26); (try clear c28); (try clear c31); (try clear c33); (try clear c34); (try clear c34b0); (try clear c35); (try clear c35b0); (try clear c37); (try clear c41); (try clear c42); (try clear c44); (try clear c44b0); (try clear c44b1); (try clear c45); (try clear c46); (try clear c48); (try clear c50); (try clear c51); (try clear c53); (try clear hz20); (try clear hz20); (try clear hz27); (try clear hz30); (try clear hz38); (try clear hz39); (try clear hz43); (try clear hz47); (try clear hz49); (try clear hz8); (try clear hz9); (try clear hx143_0 hx143_1 hx143_2 hx143_3 hx143_4); (try clear p143); (try clear p2); (try clear p6); (try clear q143); obtain ⟨kq, x68_35, rfl, HA, HJ35, BK141, BK142, BK144, HB⟩ := hcut
         cases kq with
         | zero => exact absurd HA.out (by simp [cst_rightInner.j2])
         | succ kj35 =>
          have H := HA.out; clear HA; (simp only [cst_rightInner.j2] at H); (refine iteR ?_ ?_ H <;> clear H <;> intro c55 H)
          ·subst c55
           obtain rfl := Option.some.inj H; go_wp2; (go_ret); exact ⟨qE, qF⟩
          ·replace c55 := Bool.eq_false_iff.mpr c55
           subst c55; have H' := qM H; clear H; have hnb56 := NB144_141.out; have hnc56 := NB141_144.out; have hnb57 := NB144_142.out; have hnc57 := NB142_144.out; have hz58 := bx5 BK144.out; go_wp2
           go_loopg [72] kj35 (fun kq v72 w' => ∃ (x72_4 : Int), v72 = .int .i64 x72_4 ∧ Aside0 (cst_rightInner.l0 kq ((rd_T58 l0_3 a1_1).f1) (((rd_T58 l0_3 a1_1).f1).length : Int) x72_4 a1_0 a1_1 a1_2 a1_3 l1_4 a1_5 l1_6 = some r) ∧ Aside0 (kq ≤ kj35) ∧ Aside0 (w'.heap[gb141]? = some (.cells #[(.slice A0_0 l0_0.length c0_0), (.slice A0_1 l0_1.length c0_1), (.slice A0_2 l0_2.length c0_2), (.slice (some ad143) l0_3.length c0_3), (.slice A0_4 l0_4.length c0_4)] 40 (0, 0))) ∧ Aside0 (w'.heap[gb142]? = some (.cells #[.int .i64 a1_0, .int .i64 a1_1, .int .i64 a1_2, .int .i64 a1_3, (.slice A1_4 l1_4.length c1_4), .string a1_5, (.slice A1_6 l1_6.length c1_6)] 26 (0, 0))) ∧ Aside0 (w'.heap[gb144]? = some (.cells #[.int .i64 ((rd_T58 l0_3 a1_1).f0), (.slice A143_1 ((rd_T58 l0_3 a1_1).f1).length c143_1), (.slice A143_2 ((rd_T58 l0_3 a1_1).f2).length c143_2), .string ((rd_T58 l0_3 a1_1).f3), .int .i64 ((rd_T58 l0_3 a1_1).f4)] 58 (0, 0))) ∧ Aside0 (Below w.heap.size w w'))
           case atStart => exact ⟨(0), qV, H', ⟨Nat.le_refl _⟩, ⟨qK⟩, ⟨qK⟩, ⟨qK⟩, ⟨qF⟩⟩
           case round =>
            (clear H'); (try clear c1); (try clear p1); (try clear q1); (try clear hx1); (try clear c2); (try clear p2); (try clear c3); (try clear c4); (try clear c5); (try clear c6); (try clear c6b0); (try clear p6); (try clear c7); (try clear c10); (try clear c10b0); (try clear c10b1); (try clear c11); (try clear c14); (try clear p14); (try clear q14); (try clear hx14); (try clear c17); (try clear c18); (try clear c18b0); (try clear c18b1); (try clear c19); (try clear c22); (try clear c24); (try clear c24b0); (try clear c24b1); (try clear c25); (try clear c25b0); (try clear c26); (try clear c28); (try clear c31); (try clear c33); (try clear c34); (try clear c34b0); (try clear c35); (try clear c35b0); (try clear c37); (try clear c41); (try clear c42); (try clear c44); (try clear c44b0); (try clear c44b1); (try clear c45); (try clear c46); (try clear c48); (try clear c50); (try clear c51); (try clear c53); (try clear c55); (try clear c56); (try clear c57); (try clear hz20); (try clear hz20); (try clear hz27); (try clear hz30); (try clear hz38); (try clear hz39); (try clear hz43); (try clear hz47); (try clear hz49); (try clear hz58); (try clear hz8); (try clear hz9); (try clear hx143_0 hx143_1 hx143_2 hx143_3 hx143_4); (try clear p1); (try clear p14); (try clear p143); (try clear p2); (try clear p6); (try clear q1); (try clear q14); (try clear q143); obtain ⟨x72_4, rfl, HA, HK4, BK141, BK142, BK144, HB⟩ := hrel
            cases gk with
            | zero => exact absurd HA.out (by simp [cst_rightInner.l0])
            | succ k4 =>
             have H := HA.out; clear HA; (simp only [cst_rightInner.l0] at H); (refine iteD ?_ ?_ H <;> clear H <;> intro c59b0 H)
             ·refine iteN ?_ H
              clear H; (intro c60b0 H); refine iteN ?_ H; clear H; (intro c61b0 H); refine iteN ?_ H; clear H; (intro c62b0 H); have p145 : 0 ≤ (x72_4 : Int) := qo qX; have q145 : x72_4 < (((rd_T58 l0_3 a1_1).f1).length : Int) := qo qX; obtain ⟨ad145, e145, hx145_0⟩ := Kd.at_int HR143_1.out x72_4 p145 q145
              cases e145
              replace hx145_0 := qv HB.out hx145_0; replace p145 := eq_true p145; replace q145 := eq_true q145; have hnb64 := NB142_141.out; have hnc64 := NB141_142.out; have hnb65 := NB142_144.out; have hnc65 := NB144_142.out; have hz66 := bx7 BK142.out; have p146 : 0 ≤ (x72_4 : Int) := qo qX; have q146 : x72_4 < (l1_6.length : Int) := qo qX; obtain ⟨ad146, A146_4, c146_4, A146_6, c146_6, e146, hx146_0, hx146_1, hx146_2, hx146_3, hx146_4, hx146_5, hx146_6, hl146_4, hi146_4, hl146_6, hi146_6⟩ := at_T26 HR1_6.out x72_4 p146 q146
              cases e146
              replace hx146_0 := qv HB.out hx146_0; replace hx146_1 := qv HB.out hx146_1; replace hx146_2 := qv HB.out hx146_2; replace hx146_3 := qv HB.out hx146_3; replace hx146_4 := qv HB.out hx146_4; replace hx146_5 := qv HB.out hx146_5; replace hx146_6 := qv HB.out hx146_6; have HR146_4 := qM hi146_4; have HC146_4 := qM hl146_4; clear hi146_4 hl146_4; have HR146_6 := qM hi146_6; have HC146_6 := qM hl146_6; clear hi146_6 hl146_6; replace p146 := eq_true p146; replace q146 := eq_true q146; (refine iteE ?_ ?_ H <;> clear H <;> intro c63b0 c63b1 H)
              ·have H' := qM H
               clear H; go_wp2; (go_roundg k4)
               case measure => have := HJ2.out; have := HJ20.out; have := HJ35.out; have := HK4.out; omega
               case rel => exact ⟨(wrap64 (x72_4 + 1)), qV, H', ⟨by have := HJ2.out; have := HJ20.out; have := HJ35.out; have := HK4.out; omega⟩, ⟨qK⟩, ⟨qK⟩, ⟨qK⟩, ⟨qF⟩⟩
              ·intro c63
               obtain rfl := Option.some.inj H; go_wp2; (go_ret); exact ⟨qE, qF⟩
             ·obtain rfl := Option.some.inj H
              go_wp2; (go_ret); exact ⟨qE, qF⟩
end
theorem rune_w_pos (s : ByteArray) (pos : Nat) : 1 ≤ (Utf8.decode s pos).2 := Lib.width_pos s pos
theorem rune_w_le (s : ByteArray) (pos : Nat) (h : pos < s.size) : pos + (Utf8.decode s pos).2 ≤ s.size := by
 have h1 := Lib.tail_decode s pos 0
 have h2 := Lib.width_le (s.extract pos s.size) (by simp; omega)
 rw [Lib.tail_decode] at h2
 simp at h2
 omega
def runesFrom (s : ByteArray) : Nat → Nat → List S87
 | 0, _ => []
 | f + 1, pos => if pos < s.size then ⟨((Utf8.decode s pos).1 : Int), (pos : Int), ((Utf8.decode s pos).2 : Int)⟩ :: runesFrom s f (pos + (Utf8.decode s pos).2) else []
def runesL (s : ByteArray) : List S87 := runesFrom s s.size 0
theorem runesFrom_end (s : ByteArray) (f pos : Nat) (h : ¬ pos < s.size) : runesFrom s f pos = [] := by
 cases f <;> simp [runesFrom, h]
section
open Go.Proofs.YtphmgaijkdflnaaDoorW.PrintWords Go.Proofs.YtphmgaijkdflnaaDoorW.PrintLast Go.Proofs.YtphmgaijkdflnaaDoorW.PrintMore
attribute [local go_sem] max2_int min2_int max_two min_two max_three min_three max_four min_four
def grammar_Sym.f (l0_0 : List ByteArray) (l0_1 : List ByteArray) (l0_2 : List Int) (l0_3 : List (S58)) (l0_4 : List (S61)) (a1 : Int) : Option (ByteArray) := (grammar_there.f l0_0 l0_1 l0_2 l0_3 l0_4 a1).bind fun t181 => (if t181 = true then (if a1 < 0 then (if 0 ≤ (wrap64 ((-1) - a1)) then (if (wrap64 ((-1) - a1)) < (l0_1.length : Int) then (some (rdOf ByteArray.empty l0_1 (wrap64 ((-1) - a1)))) else (none)) else (none)) else (if 0 ≤ a1 then (if a1 < (l0_0.length : Int) then (some (rdOf ByteArray.empty l0_0 a1)) else (none)) else (none))) else (some (⟨#[63]⟩ : ByteArray)))
theorem grammar_Sym.calls (A0_0 : Option Addr) (c0_0 : Nat) (l0_0 : List ByteArray) (A0_1 : Option Addr) (c0_1 : Nat) (l0_1 : List ByteArray) (A0_2 : Option Addr) (c0_2 : Nat) (l0_2 : List Int) (A0_3 : Option Addr) (c0_3 : Nat) (l0_3 : List (S58)) (A0_4 : Option Addr) (c0_4 : Nat) (l0_4 : List (S61)) (a1 : Int) (r : ByteArray) (w : World) (hr0_0 : Kd.C Kd.string w A0_0 l0_0.length l0_0) (hc0_0 : l0_0.length ≤ c0_0) (hr0_1 : Kd.C Kd.string w A0_1 l0_1.length l0_1) (hc0_1 : l0_1.length ≤ c0_1) (hr0_2 : Kd.C (Kd.int .i64) w A0_2 l0_2.length l0_2) (hc0_2 : l0_2.length ≤ c0_2) (hr0_3 : Kd.C k58 w A0_3 l0_3.length l0_3) (hc0_3 : l0_3.length ≤ c0_3) (hr0_4 : Kd.C k61 w A0_4 l0_4.length l0_4) (hc0_4 : l0_4.length ≤ c0_4) (h : grammar_Sym.f l0_0 l0_1 l0_2 l0_3 l0_4 a1 = some r) :
  Calls Tryd.prog 43 #[.agg #[.slice A0_0 l0_0.length c0_0, .slice A0_1 l0_1.length c0_1, .slice A0_2 l0_2.length c0_2, .slice A0_3 l0_3.length c0_3, .slice A0_4 l0_4.length c0_4], .int .i64 a1] w fun e w' => e = .returned (.string r) ∧ Below w.heap.size w w' := by
 have hu40 := Tryd.underlying40; have HR0_0 := qM hr0_0; have HC0_0 := qM hc0_0; clear hr0_0 hc0_0; have HR0_1 := qM hr0_1; have HC0_1 := qM hc0_1; clear hr0_1 hc0_1; have HR0_2 := qM hr0_2; have HC0_2 := qM hc0_2; clear hr0_2 hc0_2; have HR0_3 := qM hr0_3; have HC0_3 := qM hc0_3; clear hr0_3 hc0_3; have HR0_4 := qM hr0_4; have HC0_4 := qM hc0_4; clear hr0_4 hc0_4; have HB := qM (Below.refl w.heap.size w); have H : ((grammar_there.f l0_0 l0_1 l0_2 l0_3 l0_4 a1).bind fun t181 => (if t181 = true then (if a1 < 0 then (if 0 ≤ (wrap64 ((-1) - a1)) then (if (wrap64 ((-1) - a1)) < (l0_1.length : Int) then (some (rdOf ByteArray.empty l0_1 (wrap64 ((-1) - a1)))) else (none)) else (none)) else (if 0 ≤ a1 then (if a1 < (l0_0.length : Int) then (some (rdOf ByteArray.empty l0_0 a1)) else (none)) else (none))) else (some (⟨#[63]⟩ : ByteArray)))) = some r := h; clear h; replace H := Option.bind_eq_some_iff.mp H; obtain ⟨t181, A30, H⟩ := H; replace H : (if t181 = true then (if a1 < 0 then (if 0 ≤ (wrap64 ((-1) - a1)) then (if (wrap64 ((-1) - a1)) < (l0_1.length : Int) then (some (rdOf ByteArray.empty l0_1 (wrap64 ((-1) - a1)))) else (none)) else (none)) else (if 0 ≤ a1 then (if a1 < (l0_0.length : Int) then (some (rdOf ByteArray.empty l0_0 a1)) else (none)) else (none))) else (some (⟨#[63]⟩ : ByteArray))) = some r := H; have A3 := qM A30; clear A30; have HH_ := qM H; clear H; (go_enter Tryd.func43, Tryd.ntmps43)
 go_upto_region 1 with (first | ((with_reducible refine gate_dst (N := 2) rfl ?_); refine box_event ?hg (N := 2) ?hd (cs := #[.slice A0_0 l0_0.length c0_0, .slice A0_1 l0_1.length c0_1, .slice A0_2 l0_2.length c0_2, .slice A0_3 l0_3.length c0_3, .slice A0_4 l0_4.length c0_4]) (t := 40) ?hr ?_; (case hd | hg => rfl); (case hr => first | (go_simp; done) | (go_simp; rfl)); intro gb180 hg w9 hbox hb; have BK180 := qM (hbox); have GW180 := qM (qG hg); have GE180 := GW180; replace HB := qM (qP qF hb); clear hb hbox hg; have hz10 := bx5 BK180.out))
 have H := HH_.out; clear HH_; (refine iteR ?_ ?_ H <;> clear H <;> intro c4 H)
 ·subst c4
  refine iteD ?_ ?_ H <;> clear H <;> intro c5b0 H
  ·obtain ⟨ji6, hji6⟩ : ∃ j_ : Int, (wrap64 ((-1) - a1)) = j_ := ⟨_, rfl⟩
   (replace H : (if 0 ≤ (ji6) then (if (ji6) < (l0_1.length : Int) then (some (rdOf ByteArray.empty l0_1 (ji6))) else (none)) else (none)) = some r := by first | (rw [hji6] at H; exact H) | (simp only [hji6] at H ⊢; exact H)); (try rw [hji6] at A3); have hji6w : (IntKind.i64.wrap ((-1) - a1)) = ji6 := (i64_w _).trans hji6; refine iteN ?_ H; clear H; (intro c7b0 H); refine iteN ?_ H; clear H; (intro c8b0 H); obtain rfl := Option.some.inj H
   go_wp2_with (first | ((with_reducible refine gate_callee (f := 65) rfl ?_); refine goesL_ (some 8) rfl rfl Tryd.func65 (by kernel_rfl) rfl #[.agg #[.slice A0_0 l0_0.length c0_0, .slice A0_1 l0_1.length c0_1, .slice A0_2 l0_2.length c0_2, .slice A0_3 l0_3.length c0_3, .slice A0_4 l0_4.length c0_4], .int .i64 a1] rfl (by (try simp only [List.map_toArray, List.map_cons, List.map_nil]); first | done | rfl | (simp only [List.length_drop, List.length_take]; rfl)) ?_; (with_reducible refine (grammar_there.calls _ _ l0_0 _ _ l0_1 _ _ l0_2 _ _ l0_3 _ _ l0_4 a1 true _ ?side1 ?side2 ?side3 ?side4 ?side5 ?side6 ?side7 ?side8 ?side9 ?side10 A3.out).mono ?_); (case side1 | side3 | side5 | side7 | side9 => exact qY); (case side2 | side4 | side6 | side8 | side10 => exact qO); rintro e w11 ⟨rfl, hb⟩; refine ⟨_, rfl, ?_⟩; replace BK180 := qM (qb (g := gb180) qK hb); replace HB := qM (qP qF hb); (try clear hb); (try clear hb2); (try clear hk); (try clear hi); have hz12 := bx5 BK180.out; have p182 : 0 ≤ ((ji6) : Int) := qo qX; have q182 : (ji6) < (l0_1.length : Int) := qo qX; obtain ⟨ad182, e182, hx182_0⟩ := Kd.at_string HR0_1.out (ji6) p182 q182; cases e182; replace hx182_0 := qv HB.out hx182_0; replace p182 := eq_true p182; replace q182 := eq_true q182))
   (go_ret); exact ⟨by first | rfl | (simp [errW_none, errW_some] <;> rfl) | (simp only [← hji6]; first | rfl | (simp [errW_none, errW_some] <;> rfl)) | (simp [*, errW_none, errW_some] <;> rfl), qF⟩
  ·refine iteN ?_ H
   clear H; (intro c13b0 H); refine iteN ?_ H; clear H; (intro c14b0 H); obtain rfl := Option.some.inj H
   go_wp2_with (first | ((with_reducible refine gate_callee (f := 65) rfl ?_); refine goesL_ (some 8) rfl rfl Tryd.func65 (by kernel_rfl) rfl #[.agg #[.slice A0_0 l0_0.length c0_0, .slice A0_1 l0_1.length c0_1, .slice A0_2 l0_2.length c0_2, .slice A0_3 l0_3.length c0_3, .slice A0_4 l0_4.length c0_4], .int .i64 a1] rfl (by (try simp only [List.map_toArray, List.map_cons, List.map_nil]); first | done | rfl | (simp only [List.length_drop, List.length_take]; rfl)) ?_; (with_reducible refine (grammar_there.calls _ _ l0_0 _ _ l0_1 _ _ l0_2 _ _ l0_3 _ _ l0_4 a1 true _ ?side1 ?side2 ?side3 ?side4 ?side5 ?side6 ?side7 ?side8 ?side9 ?side10 A3.out).mono ?_); (case side1 | side3 | side5 | side7 | side9 => exact qY); (case side2 | side4 | side6 | side8 | side10 => exact qO); rintro e w17 ⟨rfl, hb⟩; refine ⟨_, rfl, ?_⟩; replace BK180 := qM (qb (g := gb180) qK hb); replace HB := qM (qP qF hb); (try clear hb); (try clear hb2); (try clear hk); (try clear hi); have hz18 := bx5 BK180.out; have p183 : 0 ≤ (a1 : Int) := qo qX; have q183 : a1 < (l0_0.length : Int) := qo qX; obtain ⟨ad183, e183, hx183_0⟩ := Kd.at_string HR0_0.out a1 p183 q183; cases e183; replace hx183_0 := qv HB.out hx183_0; replace p183 := eq_true p183; replace q183 := eq_true q183))
   (go_ret); exact ⟨qE, qF⟩
 ·replace c4 := Bool.eq_false_iff.mpr c4
  subst c4; obtain rfl := Option.some.inj H
  go_wp2_with (first | ((with_reducible refine gate_callee (f := 65) rfl ?_); refine goesL_ (some 8) rfl rfl Tryd.func65 (by kernel_rfl) rfl #[.agg #[.slice A0_0 l0_0.length c0_0, .slice A0_1 l0_1.length c0_1, .slice A0_2 l0_2.length c0_2, .slice A0_3 l0_3.length c0_3, .slice A0_4 l0_4.length c0_4], .int .i64 a1] rfl (by (try simp only [List.map_toArray, List.map_cons, List.map_nil]); first | done | rfl | (simp only [List.length_drop, List.length_take]; rfl)) ?_; (with_reducible refine (grammar_there.calls _ _ l0_0 _ _ l0_1 _ _ l0_2 _ _ l0_3 _ _ l0_4 a1 false _ ?side1 ?side2 ?side3 ?side4 ?side5 ?side6 ?side7 ?side8 ?side9 ?side10 A3.out).mono ?_); (case side1 | side3 | side5 | side7 | side9 => exact qY); (case side2 | side4 | side6 | side8 | side10 => exact qO); rintro e w21 ⟨rfl, hb⟩; refine ⟨_, rfl, ?_⟩; replace BK180 := qM (qb (g := gb180) qK hb); replace HB := qM (qP qF hb); (try clear hb); (try clear hb2); (try clear hk); (try clear hi)))
  (go_ret); exact ⟨qE, qF⟩
def arboristlaw21_Sum.f  : Option (List ByteArray × List ByteArray × List Int × (List (S58)) × (List (S61))) := some ((([(⟨#[36, 101, 110, 100]⟩ : ByteArray), (⟨#[36, 101, 114, 114, 111, 114]⟩ : ByteArray), (⟨#[110]⟩ : ByteArray), (⟨#[34, 43, 34]⟩ : ByteArray)] : List ByteArray)), (([(⟨#[36, 115, 116, 97, 114, 116]⟩ : ByteArray), (⟨#[101]⟩ : ByteArray)] : List ByteArray)), (([0, 0] : List Int)), (([(⟨0, (([(-2)] : List Int)), ([] : List ByteArray), (⟨#[]⟩ : ByteArray), 0⟩ : S58), (⟨1, (([(-2), 3, (-2)] : List Int)), ([] : List ByteArray), (⟨#[]⟩ : ByteArray), 0⟩ : S58), (⟨1, (([2] : List Int)), ([] : List ByteArray), (⟨#[]⟩ : ByteArray), 0⟩ : S58)] : List (S58))), ([] : List (S61)))
theorem arboristlaw21_Sum.calls  (r1 : List ByteArray) (r2 : List ByteArray) (r3 : List Int) (r4 : List (S58)) (r5 : List (S61)) (w : World) (h : arboristlaw21_Sum.f  = some (r1, r2, r3, r4, r5)) :
  Calls Tryd.prog 29 #[] w fun e w' => ∃ v0_ v1_ v2_ v3_ v4_ : Value, e = .returned (.agg #[v0_, v1_, v2_, v3_, v4_]) ∧ Kd.R Kd.string 9 w' w.heap.size (fun k_ => (w.heap.size ≤ k_) ∧ some k_ ≠ (v1_ : Value).ownBlock) v0_ r1 ∧ Kd.R Kd.string 9 w' w.heap.size (fun k_ => (w.heap.size ≤ k_) ∧ some k_ ≠ (v0_ : Value).ownBlock) v1_ r2 ∧ Kd.R (Kd.int .i64) 75 w' w.heap.size (fun k_ => (w.heap.size ≤ k_)) v2_ r3 ∧ Kd.N k58 58 w' w.heap.size (fun k_ => (w.heap.size ≤ k_) ∧ some k_ ≠ (v0_ : Value).ownBlock ∧ some k_ ≠ (v1_ : Value).ownBlock ∧ some k_ ≠ (v2_ : Value).ownBlock ∧ some k_ ≠ (v4_ : Value).ownBlock) v3_ r4 ∧ Kd.N k61 61 w' w.heap.size (fun k_ => (w.heap.size ≤ k_) ∧ some k_ ≠ (v0_ : Value).ownBlock ∧ some k_ ≠ (v1_ : Value).ownBlock ∧ some k_ ≠ (v2_ : Value).ownBlock ∧ some k_ ≠ (v3_ : Value).ownBlock) v4_ r5 ∧ Below w.heap.size w w' := by
 have hu40 := Tryd.underlying40; have hu58 := Tryd.underlying58; have HB := qM (Below.refl w.heap.size w); have H : (some ((([(⟨#[36, 101, 110, 100]⟩ : ByteArray), (⟨#[36, 101, 114, 114, 111, 114]⟩ : ByteArray), (⟨#[110]⟩ : ByteArray), (⟨#[34, 43, 34]⟩ : ByteArray)] : List ByteArray)), (([(⟨#[36, 115, 116, 97, 114, 116]⟩ : ByteArray), (⟨#[101]⟩ : ByteArray)] : List ByteArray)), (([0, 0] : List Int)), (([(⟨0, (([(-2)] : List Int)), ([] : List ByteArray), (⟨#[]⟩ : ByteArray), 0⟩ : S58), (⟨1, (([(-2), 3, (-2)] : List Int)), ([] : List ByteArray), (⟨#[]⟩ : ByteArray), 0⟩ : S58), (⟨1, (([2] : List Int)), ([] : List ByteArray), (⟨#[]⟩ : ByteArray), 0⟩ : S58)] : List (S58))), ([] : List (S61)))) = some (r1, r2, r3, r4, r5) := h; clear h; obtain ⟨y102, hy102⟩ : ∃ y_ : List ByteArray, y_ = (([(⟨#[36, 101, 110, 100]⟩ : ByteArray), (⟨#[36, 101, 114, 114, 111, 114]⟩ : ByteArray), (⟨#[110]⟩ : ByteArray), (⟨#[34, 43, 34]⟩ : ByteArray)] : List ByteArray)) := ⟨_, rfl⟩
 replace H : (some (y102, (([(⟨#[36, 115, 116, 97, 114, 116]⟩ : ByteArray), (⟨#[101]⟩ : ByteArray)] : List ByteArray)), (([0, 0] : List Int)), (([(⟨0, (([(-2)] : List Int)), ([] : List ByteArray), (⟨#[]⟩ : ByteArray), 0⟩ : S58), (⟨1, (([(-2), 3, (-2)] : List Int)), ([] : List ByteArray), (⟨#[]⟩ : ByteArray), 0⟩ : S58), (⟨1, (([2] : List Int)), ([] : List ByteArray), (⟨#[]⟩ : ByteArray), 0⟩ : S58)] : List (S58))), ([] : List (S61)))) = some (r1, r2, r3, r4, r5) := by first | (rw [hy102]; with_reducible exact H) | (have H2_ := (Option.bind_some _ _).symm.trans H; rw [hy102]; with_reducible exact H2_) | (have H2_ := (Option.bind_some _ _).symm.trans H; with_reducible exact H2_) | with_reducible exact H | (rw [hy102]; exact H) | exact H
 have Ny102 := qM hy102; clear hy102; obtain ⟨y105, hy105⟩ : ∃ y_ : List ByteArray, y_ = (([(⟨#[36, 115, 116, 97, 114, 116]⟩ : ByteArray), (⟨#[101]⟩ : ByteArray)] : List ByteArray)) := ⟨_, rfl⟩; (replace H : (some (y102, y105, (([0, 0] : List Int)), (([(⟨0, (([(-2)] : List Int)), ([] : List ByteArray), (⟨#[]⟩ : ByteArray), 0⟩ : S58), (⟨1, (([(-2), 3, (-2)] : List Int)), ([] : List ByteArray), (⟨#[]⟩ : ByteArray), 0⟩ : S58), (⟨1, (([2] : List Int)), ([] : List ByteArray), (⟨#[]⟩ : ByteArray), 0⟩ : S58)] : List (S58))), ([] : List (S61)))) = some (r1, r2, r3, r4, r5) := by first | (rw [hy105]; with_reducible exact H) | (have H2_ := (Option.bind_some _ _).symm.trans H; rw [hy105]; with_reducible exact H2_) | (have H2_ := (Option.bind_some _ _).symm.trans H; with_reducible exact H2_) | with_reducible exact H | (rw [hy105]; exact H) | exact H); have Ny105 := qM hy105; clear hy105; obtain ⟨y108, hy108⟩ : ∃ y_ : List Int, y_ = (([0, 0] : List Int)) := ⟨_, rfl⟩; (replace H : (some (y102, y105, y108, (([(⟨0, (([(-2)] : List Int)), ([] : List ByteArray), (⟨#[]⟩ : ByteArray), 0⟩ : S58), (⟨1, (([(-2), 3, (-2)] : List Int)), ([] : List ByteArray), (⟨#[]⟩ : ByteArray), 0⟩ : S58), (⟨1, (([2] : List Int)), ([] : List ByteArray), (⟨#[]⟩ : ByteArray), 0⟩ : S58)] : List (S58))), ([] : List (S61)))) = some (r1, r2, r3, r4, r5) := by first | (rw [hy108]; with_reducible exact H) | (have H2_ := (Option.bind_some _ _).symm.trans H; rw [hy108]; with_reducible exact H2_) | (have H2_ := (Option.bind_some _ _).symm.trans H; with_reducible exact H2_) | with_reducible exact H | (rw [hy108]; exact H) | exact H); have Ny108 := qM hy108; clear hy108; obtain ⟨y111, hy111⟩ : ∃ y_ : List Int, y_ = (([(-2)] : List Int)) := ⟨_, rfl⟩; (replace H : (some (y102, y105, y108, (([(⟨0, y111, ([] : List ByteArray), (⟨#[]⟩ : ByteArray), 0⟩ : S58), (⟨1, (([(-2), 3, (-2)] : List Int)), ([] : List ByteArray), (⟨#[]⟩ : ByteArray), 0⟩ : S58), (⟨1, (([2] : List Int)), ([] : List ByteArray), (⟨#[]⟩ : ByteArray), 0⟩ : S58)] : List (S58))), ([] : List (S61)))) = some (r1, r2, r3, r4, r5) := by first | (rw [hy111]; with_reducible exact H) | (have H2_ := (Option.bind_some _ _).symm.trans H; rw [hy111]; with_reducible exact H2_) | (have H2_ := (Option.bind_some _ _).symm.trans H; with_reducible exact H2_) | with_reducible exact H | (rw [hy111]; exact H) | exact H); have Ny111 := qM hy111; clear hy111; obtain ⟨y114, hy114⟩ : ∃ y_ : List Int, y_ = (([(-2), 3, (-2)] : List Int)) := ⟨_, rfl⟩; (replace H : (some (y102, y105, y108, (([(⟨0, y111, ([] : List ByteArray), (⟨#[]⟩ : ByteArray), 0⟩ : S58), (⟨1, y114, ([] : List ByteArray), (⟨#[]⟩ : ByteArray), 0⟩ : S58), (⟨1, (([2] : List Int)), ([] : List ByteArray), (⟨#[]⟩ : ByteArray), 0⟩ : S58)] : List (S58))), ([] : List (S61)))) = some (r1, r2, r3, r4, r5) := by first | (rw [hy114]; with_reducible exact H) | (have H2_ := (Option.bind_some _ _).symm.trans H; rw [hy114]; with_reducible exact H2_) | (have H2_ := (Option.bind_some _ _).symm.trans H; with_reducible exact H2_) | with_reducible exact H | (rw [hy114]; exact H) | exact H)
 have Ny114 := qM hy114; clear hy114; obtain ⟨y117, hy117⟩ : ∃ y_ : List Int, y_ = (([2] : List Int)) := ⟨_, rfl⟩; (replace H : (some (y102, y105, y108, (([(⟨0, y111, ([] : List ByteArray), (⟨#[]⟩ : ByteArray), 0⟩ : S58), (⟨1, y114, ([] : List ByteArray), (⟨#[]⟩ : ByteArray), 0⟩ : S58), (⟨1, y117, ([] : List ByteArray), (⟨#[]⟩ : ByteArray), 0⟩ : S58)] : List (S58))), ([] : List (S61)))) = some (r1, r2, r3, r4, r5) := by first | (rw [hy117]; with_reducible exact H) | (have H2_ := (Option.bind_some _ _).symm.trans H; rw [hy117]; with_reducible exact H2_) | (have H2_ := (Option.bind_some _ _).symm.trans H; with_reducible exact H2_) | with_reducible exact H | (rw [hy117]; exact H) | exact H); have Ny117 := qM hy117; clear hy117; obtain ⟨y120, hy120⟩ : ∃ y_ : List (S58), y_ = (([(⟨0, y111, ([] : List ByteArray), (⟨#[]⟩ : ByteArray), 0⟩ : S58), (⟨1, y114, ([] : List ByteArray), (⟨#[]⟩ : ByteArray), 0⟩ : S58), (⟨1, y117, ([] : List ByteArray), (⟨#[]⟩ : ByteArray), 0⟩ : S58)] : List (S58))) := ⟨_, rfl⟩; (replace H : (some (y102, y105, y108, y120, ([] : List (S61)))) = some (r1, r2, r3, r4, r5) := by first | (rw [hy120]; with_reducible exact H) | (have H2_ := (Option.bind_some _ _).symm.trans H; rw [hy120]; with_reducible exact H2_) | (have H2_ := (Option.bind_some _ _).symm.trans H; with_reducible exact H2_) | with_reducible exact H | (rw [hy120]; exact H) | exact H); have Ny120 := qM hy120; clear hy120; (simp only [Option.some.injEq, Prod.mk.injEq] at H); obtain ⟨rfl, rfl, rfl, rfl, rfl⟩ := H; (go_enter Tryd.func29, Tryd.ntmps29)
 go_wp2_with (first | ((with_reducible refine gate_dst (N := 0) rfl ?_); refine box_event ?hg (N := 0) ?hd (cs := #[.slice none 0 0, .slice none 0 0, .slice none 0 0, .slice none 0 0, .slice none 0 0]) (t := 40) ?hr ?_; (case hd | hg => rfl); (case hr => first | (go_simp; done) | (go_simp; rfl)); intro gb101 hg w1 hbox hb; have BK101 := qM (hbox); have GW101 := qM (qG hg); have GE101 := GW101; replace HB := qM (qP qF hb); clear hb hbox hg) | ((with_reducible refine gate_dst (N := 1) rfl ?_); refine Kd.R_lit Kd.string _ 9 ?hg (N := 1) ?hd (xs := ([(⟨#[36, 101, 110, 100]⟩ : ByteArray), (⟨#[36, 101, 114, 114, 111, 114]⟩ : ByteArray), (⟨#[110]⟩ : ByteArray), (⟨#[34, 43, 34]⟩ : ByteArray)] : List ByteArray)) (inner := [.string (⟨#[36, 101, 110, 100]⟩ : ByteArray), .string (⟨#[36, 101, 114, 114, 111, 114]⟩ : ByteArray), .string (⟨#[110]⟩ : ByteArray), .string (⟨#[34, 43, 34]⟩ : ByteArray)]) (ok := fun _ => True) (okp := fun _ => True) ?hr ?hp (fun _ hk => hk) trivial (Below.refl _ _) (Nat.le_refl _) (by simp) ?_; (case hd | hg => rfl); (case hr => first | (go_simp; done) | (go_simp; rfl)); (case hp => exact (Reps.one (show Kd.M Kd.string _ _ _ (⟨#[36, 101, 110, 100]⟩ : ByteArray) [.string (⟨#[36, 101, 110, 100]⟩ : ByteArray)] from rfl) (Reps.one (show Kd.M Kd.string _ _ _ (⟨#[36, 101, 114, 114, 111, 114]⟩ : ByteArray) [.string (⟨#[36, 101, 114, 114, 111, 114]⟩ : ByteArray)] from rfl) (Reps.one (show Kd.M Kd.string _ _ _ (⟨#[110]⟩ : ByteArray) [.string (⟨#[110]⟩ : ByteArray)] from rfl) (Reps.one (show Kd.M Kd.string _ _ _ (⟨#[34, 43, 34]⟩ : ByteArray) [.string (⟨#[34, 43, 34]⟩ : ByteArray)] from rfl) (Reps.none _ _)))))); intro v103 w2 ho3 hb hg_ hnew_; clear hg_ hnew_; (first | rw [← Ny102.out] at ho3 | (simp only [Int.reduceToNat] at ho3; rw [← Ny102.out] at ho3)); have HO104 := qM (Kd.R_lower (Kd.R_newM (M := fun k_ => (w.heap.size ≤ k_)) ho3 (qZ qF) (fun k_ h_ => h_)) (qZ qF)); replace BK101 := qM (qb (g := gb101) qK hb); replace HB := qM (qP qF hb); clear hb ho3) | ((with_reducible refine gate_dst (N := 2) rfl ?_); refine Kd.R_lit Kd.string _ 9 ?hg (N := 2) ?hd (xs := ([(⟨#[36, 115, 116, 97, 114, 116]⟩ : ByteArray), (⟨#[101]⟩ : ByteArray)] : List ByteArray)) (inner := [.string (⟨#[36, 115, 116, 97, 114, 116]⟩ : ByteArray), .string (⟨#[101]⟩ : ByteArray)]) (ok := fun _ => True) (okp := fun _ => True) ?hr ?hp (fun _ hk => hk) trivial (Below.refl _ _) (Nat.le_refl _) (by simp) ?_; (case hd | hg => rfl); (case hr => first | (go_simp; done) | (go_simp; rfl)); (case hp => exact (Reps.one (show Kd.M Kd.string _ _ _ (⟨#[36, 115, 116, 97, 114, 116]⟩ : ByteArray) [.string (⟨#[36, 115, 116, 97, 114, 116]⟩ : ByteArray)] from rfl) (Reps.one (show Kd.M Kd.string _ _ _ (⟨#[101]⟩ : ByteArray) [.string (⟨#[101]⟩ : ByteArray)] from rfl) (Reps.none _ _)))); intro v106 w4 ho5 hb hg_ hnew_; clear hg_ hnew_; (first | rw [← Ny105.out] at ho5 | (simp only [Int.reduceToNat] at ho5; rw [← Ny105.out] at ho5)); have HO107 := qM (Kd.R_lower (Kd.R_new' (Kd.R_newM (M := fun k_ => (w.heap.size ≤ k_)) ho5 (qZ qF) (fun k_ h_ => h_)) (Kd.R_lt (by (with_reducible repeat (first | apply Kd.R_alloc | apply Kd.R_drewN | apply Kd.R_drew)); exact HO104.out))) (qZ qF)); replace HO104 := qM (Kd.R_elder' (by (with_reducible repeat (first | apply Kd.R_alloc | apply Kd.R_drewN | apply Kd.R_drew)); exact HO104.out) (Kd.R_base ho5) hb); replace BK101 := qM (qb (g := gb101) qK hb); replace HB := qM (qP qF hb); clear hb ho5) | ((with_reducible refine gate_dst (N := 3) rfl ?_); refine Kd.R_lit (Kd.int .i64) _ 75 ?hg (N := 3) ?hd (xs := ([0, 0] : List Int)) (inner := [.int .i64 0, .int .i64 0]) (ok := fun _ => True) (okp := fun _ => True) ?hr ?hp (fun _ hk => hk) trivial (Below.refl _ _) (Nat.le_refl _) (by simp) ?_; (case hd | hg => rfl); (case hr => first | (go_simp; done) | (go_simp; rfl)); (case hp => exact (Reps.one (show Kd.M (Kd.int .i64) _ _ _ 0 [.int .i64 0] from rfl) (Reps.one (show Kd.M (Kd.int .i64) _ _ _ 0 [.int .i64 0] from rfl) (Reps.none _ _)))); intro v109 w6 ho7 hb hg_ hnew_; clear hg_ hnew_; (first | rw [← Ny108.out] at ho7 | (simp only [Int.reduceToNat] at ho7; rw [← Ny108.out] at ho7)); have HO110 := qM (Kd.R_lower (Kd.R_newM (M := fun k_ => (w.heap.size ≤ k_)) ho7 (qZ qF) (fun k_ h_ => h_)) (qZ qF)); replace HO104 := qM (Kd.R_below (by (with_reducible repeat (first | apply Kd.R_alloc | apply Kd.R_drewN | apply Kd.R_drew)); exact HO104.out) hb); replace HO107 := qM (Kd.R_below (by (with_reducible repeat (first | apply Kd.R_alloc | apply Kd.R_drewN | apply Kd.R_drew)); exact HO107.out) hb); replace BK101 := qM (qb (g := gb101) qK hb); replace HB := qM (qP qF hb); clear hb ho7) | ((with_reducible refine gate_dst (N := 4) rfl ?_); refine Kd.R_lit (Kd.int .i64) _ 3 ?hg (N := 4) ?hd (xs := ([(-2)] : List Int)) (inner := [.int .i64 (-2)]) (ok := fun _ => True) (okp := fun _ => True) ?hr ?hp (fun _ hk => hk) trivial (Below.refl _ _) (Nat.le_refl _) (by simp) ?_; (case hd | hg => rfl); (case hr => first | (go_simp; done) | (go_simp; rfl)); (case hp => exact (Reps.one (show Kd.M (Kd.int .i64) _ _ _ (-2) [.int .i64 (-2)] from rfl) (Reps.none _ _))); intro v112 w8 ho9 hb hg_ hnew_; clear hg_ hnew_; (first | rw [← Ny111.out] at ho9 | (simp only [Int.reduceToNat] at ho9; rw [← Ny111.out] at ho9)); have HO113 := qM (Kd.R_lower (Kd.R_newM (M := fun k_ => (w.heap.size ≤ k_)) ho9 (qZ qF) (fun k_ h_ => h_)) (qZ qF)); replace HO104 := qM (Kd.R_below (by (with_reducible repeat (first | apply Kd.R_alloc | apply Kd.R_drewN | apply Kd.R_drew)); exact HO104.out) hb); replace HO107 := qM (Kd.R_below (by (with_reducible repeat (first | apply Kd.R_alloc | apply Kd.R_drewN | apply Kd.R_drew)); exact HO107.out) hb); replace HO110 := qM (Kd.R_below (by (with_reducible repeat (first | apply Kd.R_alloc | apply Kd.R_drewN | apply Kd.R_drew)); exact HO110.out) hb); replace BK101 := qM (qb (g := gb101) qK hb); replace HB := qM (qP qF hb); clear hb ho9; obtain ⟨Ao10, co10, eo10⟩ := Kd.R_slice HO113.out; subst eo10) | ((with_reducible refine gate_dst (N := 6) rfl ?_); refine Kd.R_lit (Kd.int .i64) _ 3 ?hg (N := 6) ?hd (xs := ([(-2), 3, (-2)] : List Int)) (inner := [.int .i64 (-2), .int .i64 3, .int .i64 (-2)]) (ok := fun _ => True) (okp := fun _ => True) ?hr ?hp (fun _ hk => hk) trivial (Below.refl _ _) (Nat.le_refl _) (by simp) ?_; (case hd | hg => rfl); (case hr => first | (go_simp; done) | (go_simp; rfl)); (case hp => exact (Reps.one (show Kd.M (Kd.int .i64) _ _ _ (-2) [.int .i64 (-2)] from rfl) (Reps.one (show Kd.M (Kd.int .i64) _ _ _ 3 [.int .i64 3] from rfl) (Reps.one (show Kd.M (Kd.int .i64) _ _ _ (-2) [.int .i64 (-2)] from rfl) (Reps.none _ _))))); intro v115 w11 ho12 hb hg_ hnew_; clear hg_ hnew_; (first | rw [← Ny114.out] at ho12 | (simp only [Int.reduceToNat] at ho12; rw [← Ny114.out] at ho12)); have HO116 := qM (Kd.R_lower (Kd.R_new' (Kd.R_newM (M := fun k_ => (w.heap.size ≤ k_)) ho12 (qZ qF) (fun k_ h_ => h_)) (Kd.R_lt (by (with_reducible repeat (first | apply Kd.R_alloc | apply Kd.R_drewN | apply Kd.R_drew)); exact HO113.out))) (qZ qF)); replace HO104 := qM (Kd.R_below (by (with_reducible repeat (first | apply Kd.R_alloc | apply Kd.R_drewN | apply Kd.R_drew)); exact HO104.out) hb); replace HO107 := qM (Kd.R_below (by (with_reducible repeat (first | apply Kd.R_alloc | apply Kd.R_drewN | apply Kd.R_drew)); exact HO107.out) hb); replace HO110 := qM (Kd.R_below (by (with_reducible repeat (first | apply Kd.R_alloc | apply Kd.R_drewN | apply Kd.R_drew)); exact HO110.out) hb); replace HO113 := qM (Kd.R_elder' (by (with_reducible repeat (first | apply Kd.R_alloc | apply Kd.R_drewN | apply Kd.R_drew)); exact HO113.out) (Kd.R_base ho12) hb); replace BK101 := qM (qb (g := gb101) qK hb); replace HB := qM (qP qF hb); clear hb ho12; obtain ⟨Ao13, co13, eo13⟩ := Kd.R_slice HO116.out; subst eo13) | ((with_reducible refine gate_dst (N := 8) rfl ?_); refine Kd.R_lit (Kd.int .i64) _ 3 ?hg (N := 8) ?hd (xs := ([2] : List Int)) (inner := [.int .i64 2]) (ok := fun _ => True) (okp := fun _ => True) ?hr ?hp (fun _ hk => hk) trivial (Below.refl _ _) (Nat.le_refl _) (by simp) ?_; (case hd | hg => rfl); (case hr => first | (go_simp; done) | (go_simp; rfl)); (case hp => exact (Reps.one (show Kd.M (Kd.int .i64) _ _ _ 2 [.int .i64 2] from rfl) (Reps.none _ _))); intro v118 w14 ho15 hb hg_ hnew_; clear hg_ hnew_; (first | rw [← Ny117.out] at ho15 | (simp only [Int.reduceToNat] at ho15; rw [← Ny117.out] at ho15)); have HO119 := qM (Kd.R_lower (Kd.R_new' (Kd.R_new' (Kd.R_newM (M := fun k_ => (w.heap.size ≤ k_)) ho15 (qZ qF) (fun k_ h_ => h_)) (Kd.R_lt (by (with_reducible repeat (first | apply Kd.R_alloc | apply Kd.R_drewN | apply Kd.R_drew)); exact HO113.out))) (Kd.R_lt (by (with_reducible repeat (first | apply Kd.R_alloc | apply Kd.R_drewN | apply Kd.R_drew)); exact HO116.out))) (qZ qF)); replace HO104 := qM (Kd.R_below (by (with_reducible repeat (first | apply Kd.R_alloc | apply Kd.R_drewN | apply Kd.R_drew)); exact HO104.out) hb); replace HO107 := qM (Kd.R_below (by (with_reducible repeat (first | apply Kd.R_alloc | apply Kd.R_drewN | apply Kd.R_drew)); exact HO107.out) hb); replace HO110 := qM (Kd.R_below (by (with_reducible repeat (first | apply Kd.R_alloc | apply Kd.R_drewN | apply Kd.R_drew)); exact HO110.out) hb); replace HO113 := qM (Kd.R_elder' (by (with_reducible repeat (first | apply Kd.R_alloc | apply Kd.R_drewN | apply Kd.R_drew)); exact HO113.out) (Kd.R_base ho15) hb); replace HO116 := qM (Kd.R_elder' (by (with_reducible repeat (first | apply Kd.R_alloc | apply Kd.R_drewN | apply Kd.R_drew)); exact HO116.out) (Kd.R_base ho15) hb); replace BK101 := qM (qb (g := gb101) qK hb); replace HB := qM (qP qF hb); clear hb ho15; obtain ⟨Ao16, co16, eo16⟩ := Kd.R_slice HO119.out; subst eo16) | ((with_reducible refine gate_dst (N := 10) rfl ?_); refine Kd.N_lit k58 _ 58 ?hg (N' := 10) ?hd (xs := ([(⟨0, y111, ([] : List ByteArray), (⟨#[]⟩ : ByteArray), 0⟩ : S58), (⟨1, y114, ([] : List ByteArray), (⟨#[]⟩ : ByteArray), 0⟩ : S58), (⟨1, y117, ([] : List ByteArray), (⟨#[]⟩ : ByteArray), 0⟩ : S58)] : List (S58))) (inner := [.int .i64 0, .slice Ao10 y111.length co10, .slice none 0 0, .string (⟨#[]⟩ : ByteArray), .int .i64 0, .int .i64 1, .slice Ao13 y114.length co13, .slice none 0 0, .string (⟨#[]⟩ : ByteArray), .int .i64 0, .int .i64 1, .slice Ao16 y117.length co16, .slice none 0 0, .string (⟨#[]⟩ : ByteArray), .int .i64 0]) (ok := (fun k_ => (w.heap.size ≤ k_) ∧ some k_ ≠ (v103 : Value).ownBlock ∧ some k_ ≠ (v106 : Value).ownBlock ∧ some k_ ≠ (v109 : Value).ownBlock ∧ k_ ≠ gb101)) (okp := (fun k_ => (w.heap.size ≤ k_) ∧ some k_ ≠ (v103 : Value).ownBlock ∧ some k_ ≠ (v106 : Value).ownBlock ∧ some k_ ≠ (v109 : Value).ownBlock ∧ k_ ≠ gb101)) ?hr ?hp (fun _ hk => hk) ((show ∀ k_, w14.heap.size ≤ k_ → (fun k_ => (w.heap.size ≤ k_) ∧ some k_ ≠ (v103 : Value).ownBlock ∧ some k_ ≠ (v106 : Value).ownBlock ∧ some k_ ≠ (v109 : Value).ownBlock ∧ k_ ≠ gb101) k_ from fun k_ hk => ⟨(Nat.le_trans (qZ qF) hk), Kd.fresh' (Kd.R_lt (by (with_reducible repeat (first | apply Kd.R_alloc | apply Kd.R_drewN | apply Kd.R_drew)); exact HO104.out)) k_ hk, Kd.fresh' (Kd.R_lt (by (with_reducible repeat (first | apply Kd.R_alloc | apply Kd.R_drewN | apply Kd.R_drew)); exact HO107.out)) k_ hk, Kd.fresh' (Kd.R_lt (by (with_reducible repeat (first | apply Kd.R_alloc | apply Kd.R_drewN | apply Kd.R_drew)); exact HO110.out)) k_ hk, Kd.freshB (g := gb101) qK k_ hk⟩) _ (Nat.le_refl _)) (Below.refl _ _) (Nat.le_refl _) (by simp) ?_; (case hd | hg => rfl); (case hr => first | (go_simp; done) | (go_simp; rfl)); (case hp => exact (Reps.c5 (show Kd.FK k58 _ _ (⟨0, y111, ([] : List ByteArray), (⟨#[]⟩ : ByteArray), 0⟩ : S58) [.int .i64 0, .slice Ao10 y111.length co10, .slice none 0 0, .string (⟨#[]⟩ : ByteArray), .int .i64 0] from (k58_mkF _ _ (⟨0, y111, ([] : List ByteArray), (⟨#[]⟩ : ByteArray), 0⟩ : S58) (Kd.R_reads' (Kd.R_mono (ok' := (fun k_ => (w.heap.size ≤ k_) ∧ some k_ ≠ (v103 : Value).ownBlock ∧ some k_ ≠ (v106 : Value).ownBlock ∧ some k_ ≠ (v109 : Value).ownBlock ∧ k_ ≠ gb101)) (Kd.R_types (Kd.R_apart' (Kd.R_apart' (Kd.R_apart' (HO113.out) (Kd.R_typed HO104.out) (by decide)) (Kd.R_typed HO107.out) (by decide)) (Kd.R_typed HO110.out) (by decide)) BK101.out (by decide)) (fun k_ hk => ⟨hk.1.1.1.1.1.1.1, ⟨hk.1.1.1.2, ⟨hk.1.1.2, ⟨hk.1.2, hk.2⟩⟩⟩⟩))).2.1 (Kd.R_F (Kd.R_mono (ok' := (fun k_ => (w.heap.size ≤ k_) ∧ some k_ ≠ (v103 : Value).ownBlock ∧ some k_ ≠ (v106 : Value).ownBlock ∧ some k_ ≠ (v109 : Value).ownBlock ∧ k_ ≠ gb101)) (Kd.R_types (Kd.R_apart' (Kd.R_apart' (Kd.R_apart' (HO113.out) (Kd.R_typed HO104.out) (by decide)) (Kd.R_typed HO107.out) (by decide)) (Kd.R_typed HO110.out) (by decide)) BK101.out (by decide)) (fun k_ hk => ⟨hk.1.1.1.1.1.1.1, ⟨hk.1.1.1.2, ⟨hk.1.1.2, ⟨hk.1.2, hk.2⟩⟩⟩⟩))) (Nat.le_refl _) (Kd.F_nil _ _ _))) (Reps.c5 (show Kd.FK k58 _ _ (⟨1, y114, ([] : List ByteArray), (⟨#[]⟩ : ByteArray), 0⟩ : S58) [.int .i64 1, .slice Ao13 y114.length co13, .slice none 0 0, .string (⟨#[]⟩ : ByteArray), .int .i64 0] from (k58_mkF _ _ (⟨1, y114, ([] : List ByteArray), (⟨#[]⟩ : ByteArray), 0⟩ : S58) (Kd.R_reads' (Kd.R_mono (ok' := (fun k_ => (w.heap.size ≤ k_) ∧ some k_ ≠ (v103 : Value).ownBlock ∧ some k_ ≠ (v106 : Value).ownBlock ∧ some k_ ≠ (v109 : Value).ownBlock ∧ k_ ≠ gb101)) (Kd.R_types (Kd.R_apart' (Kd.R_apart' (Kd.R_apart' (HO116.out) (Kd.R_typed HO104.out) (by decide)) (Kd.R_typed HO107.out) (by decide)) (Kd.R_typed HO110.out) (by decide)) BK101.out (by decide)) (fun k_ hk => ⟨hk.1.1.1.1.1.1.1, ⟨hk.1.1.1.2, ⟨hk.1.1.2, ⟨hk.1.2, hk.2⟩⟩⟩⟩))).2.1 (Kd.R_F (Kd.R_mono (ok' := (fun k_ => (w.heap.size ≤ k_) ∧ some k_ ≠ (v103 : Value).ownBlock ∧ some k_ ≠ (v106 : Value).ownBlock ∧ some k_ ≠ (v109 : Value).ownBlock ∧ k_ ≠ gb101)) (Kd.R_types (Kd.R_apart' (Kd.R_apart' (Kd.R_apart' (HO116.out) (Kd.R_typed HO104.out) (by decide)) (Kd.R_typed HO107.out) (by decide)) (Kd.R_typed HO110.out) (by decide)) BK101.out (by decide)) (fun k_ hk => ⟨hk.1.1.1.1.1.1.1, ⟨hk.1.1.1.2, ⟨hk.1.1.2, ⟨hk.1.2, hk.2⟩⟩⟩⟩))) (Nat.le_refl _) (Kd.F_nil _ _ _))) (Reps.c5 (show Kd.FK k58 _ _ (⟨1, y117, ([] : List ByteArray), (⟨#[]⟩ : ByteArray), 0⟩ : S58) [.int .i64 1, .slice Ao16 y117.length co16, .slice none 0 0, .string (⟨#[]⟩ : ByteArray), .int .i64 0] from (k58_mkF _ _ (⟨1, y117, ([] : List ByteArray), (⟨#[]⟩ : ByteArray), 0⟩ : S58) (Kd.R_reads' (Kd.R_mono (ok' := (fun k_ => (w.heap.size ≤ k_) ∧ some k_ ≠ (v103 : Value).ownBlock ∧ some k_ ≠ (v106 : Value).ownBlock ∧ some k_ ≠ (v109 : Value).ownBlock ∧ k_ ≠ gb101)) (Kd.R_types (Kd.R_apart' (Kd.R_apart' (Kd.R_apart' (HO119.out) (Kd.R_typed HO104.out) (by decide)) (Kd.R_typed HO107.out) (by decide)) (Kd.R_typed HO110.out) (by decide)) BK101.out (by decide)) (fun k_ hk => ⟨hk.1.1.1.1.1.1.1, ⟨hk.1.1.1.2, ⟨hk.1.1.2, ⟨hk.1.2, hk.2⟩⟩⟩⟩))).2.1 (Kd.R_F (Kd.R_mono (ok' := (fun k_ => (w.heap.size ≤ k_) ∧ some k_ ≠ (v103 : Value).ownBlock ∧ some k_ ≠ (v106 : Value).ownBlock ∧ some k_ ≠ (v109 : Value).ownBlock ∧ k_ ≠ gb101)) (Kd.R_types (Kd.R_apart' (Kd.R_apart' (Kd.R_apart' (HO119.out) (Kd.R_typed HO104.out) (by decide)) (Kd.R_typed HO107.out) (by decide)) (Kd.R_typed HO110.out) (by decide)) BK101.out (by decide)) (fun k_ hk => ⟨hk.1.1.1.1.1.1.1, ⟨hk.1.1.1.2, ⟨hk.1.1.2, ⟨hk.1.2, hk.2⟩⟩⟩⟩))) (Nat.le_refl _) (Kd.F_nil _ _ _))) (Reps.none _ _))))); intro v121 w17 ho18 hb hg_ hnew_; clear hg_ hnew_; (first | rw [← Ny120.out] at ho18 | (simp only [Int.reduceToNat] at ho18; rw [← Ny120.out] at ho18)); have n0_ := qM (Kd.R_below (by (with_reducible repeat (first | apply Kd.R_alloc | apply Kd.R_drewN | apply Kd.R_drew)); exact HO104.out) hb); have n1_ := qM (Kd.R_below (by (with_reducible repeat (first | apply Kd.R_alloc | apply Kd.R_drewN | apply Kd.R_drew)); exact HO107.out) hb); have n2_ := qM (Kd.R_below (by (with_reducible repeat (first | apply Kd.R_alloc | apply Kd.R_drewN | apply Kd.R_drew)); exact HO110.out) hb); have n3_ := qM (Kd.N_lower ho18 (qZ qF)); have n4_ := qM (qb (g := gb101) qK hb); have n5_ := qM (qP qF hb); clear HO104; clear HO107; clear HO110; clear BK101; clear HB; clear HO113; clear HO116; clear HO119; have HO104 := n0_; have HO107 := n1_; have HO110 := n2_; have HO122 := n3_; have BK101 := n4_; have HB := n5_; clear n0_ n1_ n2_ n3_ n4_ n5_; clear hb ho18; obtain ⟨Ao19, co19, eo19⟩ := Kd.N_slice HO122.out; subst eo19; obtain ⟨Ao20, co20, eo20⟩ := Kd.R_slice HO110.out; subst eo20; obtain ⟨Ao21, co21, eo21⟩ := Kd.R_slice HO107.out; subst eo21; obtain ⟨Ao22, co22, eo22⟩ := Kd.R_slice HO104.out; subst eo22; have hz23 := bx5 BK101.out))
 refine bodyPost_ret (results_cell_row rfl _ _ gb101 40 #[.slice Ao22 y102.length co22, .slice Ao21 y105.length co21, .slice Ao20 y108.length co20, .slice Ao19 y120.length co19, .slice none 0 0] (0, 0) _ rfl (by (with_reducible repeat (first | refine qn ?_ _ | refine qd ?_ | refine qa ?_ _)); refine blk_put (cs := #[.slice Ao22 y102.length co22, .slice Ao21 y105.length co21, .slice Ao20 y108.length co20, .slice Ao19 y120.length co19, .slice none 0 0]) ?_ 4 _ rfl; (with_reducible repeat (first | refine qn ?_ _ | refine qd ?_ | refine qa ?_ _)); refine blk_put (cs := #[.slice Ao22 y102.length co22, .slice Ao21 y105.length co21, .slice Ao20 y108.length co20, .slice none 0 0, .slice none 0 0]) ?_ 3 _ rfl; (with_reducible repeat (first | refine qn ?_ _ | refine qd ?_ | refine qa ?_ _)); refine blk_put (cs := #[.slice Ao22 y102.length co22, .slice Ao21 y105.length co21, .slice none 0 0, .slice none 0 0, .slice none 0 0]) ?_ 2 _ rfl; (with_reducible repeat (first | refine qn ?_ _ | refine qd ?_ | refine qa ?_ _)); refine blk_put (cs := #[.slice Ao22 y102.length co22, .slice none 0 0, .slice none 0 0, .slice none 0 0, .slice none 0 0]) ?_ 1 _ rfl; (with_reducible repeat (first | refine qn ?_ _ | refine qd ?_ | refine qa ?_ _)); refine blk_put (cs := #[.slice none 0 0, .slice none 0 0, .slice none 0 0, .slice none 0 0, .slice none 0 0]) ?_ 0 _ rfl; (with_reducible repeat (first | refine qn ?_ _ | refine qd ?_ | refine qa ?_ _)); exact BK101.out) Tryd.underlying40 rfl (by kernel_rfl)) rfl ?_
 exact ⟨_, _, _, _, _, qE, by (with_reducible repeat (first | apply Kd.R_alloc | apply Kd.R_drewN | apply Kd.R_drew)); exact Kd.R_mono (Kd.R_far (p := ⟨gb101, 4, none⟩) (Kd.R_far (p := ⟨gb101, 3, none⟩) (Kd.R_far (p := ⟨gb101, 2, none⟩) (Kd.R_far (p := ⟨gb101, 1, none⟩) (Kd.R_far (p := ⟨gb101, 0, none⟩) (Kd.R_types HO104.out BK101.out (by decide)) (fun _ hk => hk.2) (.slice Ao22 y102.length co22)) (fun _ hk => hk.2) (.slice Ao21 y105.length co21)) (fun _ hk => hk.2) (.slice Ao20 y108.length co20)) (fun _ hk => hk.2) (.slice Ao19 y120.length co19)) (fun _ hk => hk.2) (.slice none 0 0)) (fun _ hk => ⟨hk.1.1.1, hk.1.2⟩), by (with_reducible repeat (first | apply Kd.R_alloc | apply Kd.R_drewN | apply Kd.R_drew)); exact Kd.R_mono (Kd.R_far (p := ⟨gb101, 4, none⟩) (Kd.R_far (p := ⟨gb101, 3, none⟩) (Kd.R_far (p := ⟨gb101, 2, none⟩) (Kd.R_far (p := ⟨gb101, 1, none⟩) (Kd.R_far (p := ⟨gb101, 0, none⟩) (Kd.R_types HO107.out BK101.out (by decide)) (fun _ hk => hk.2) (.slice Ao22 y102.length co22)) (fun _ hk => hk.2) (.slice Ao21 y105.length co21)) (fun _ hk => hk.2) (.slice Ao20 y108.length co20)) (fun _ hk => hk.2) (.slice Ao19 y120.length co19)) (fun _ hk => hk.2) (.slice none 0 0)) (fun _ hk => ⟨hk.1.1.1, hk.1.2⟩), by (with_reducible repeat (first | apply Kd.R_alloc | apply Kd.R_drewN | apply Kd.R_drew)); exact Kd.R_mono (Kd.R_far (p := ⟨gb101, 4, none⟩) (Kd.R_far (p := ⟨gb101, 3, none⟩) (Kd.R_far (p := ⟨gb101, 2, none⟩) (Kd.R_far (p := ⟨gb101, 1, none⟩) (Kd.R_far (p := ⟨gb101, 0, none⟩) (Kd.R_types HO110.out BK101.out (by decide)) (fun _ hk => hk.2) (.slice Ao22 y102.length co22)) (fun _ hk => hk.2) (.slice Ao21 y105.length co21)) (fun _ hk => hk.2) (.slice Ao20 y108.length co20)) (fun _ hk => hk.2) (.slice Ao19 y120.length co19)) (fun _ hk => hk.2) (.slice none 0 0)) (fun _ hk => hk.1.1), by (with_reducible repeat (first | apply Kd.N_alloc | apply Kd.N_drewN | apply Kd.N_drew)); exact Kd.N_mono (Kd.N_far (p := ⟨gb101, 4, none⟩) (Kd.N_far (p := ⟨gb101, 3, none⟩) (Kd.N_far (p := ⟨gb101, 2, none⟩) (Kd.N_far (p := ⟨gb101, 1, none⟩) (Kd.N_far (p := ⟨gb101, 0, none⟩) (Kd.N_mono HO122.out (fun k_ hk => (⟨hk, hk.2.2.2.2⟩ : _ ∧ k_ ≠ gb101))) (fun _ hk => hk.2) (.slice Ao22 y102.length co22)) (fun _ hk => hk.2) (.slice Ao21 y105.length co21)) (fun _ hk => hk.2) (.slice Ao20 y108.length co20)) (fun _ hk => hk.2) (.slice Ao19 y120.length co19)) (fun _ hk => hk.2) (.slice none 0 0)) (fun _ hk => ⟨hk.1.1, ⟨hk.1.2.1, ⟨hk.1.2.2.1, ⟨hk.1.2.2.2.1, (by simp [Value.ownBlock])⟩⟩⟩⟩), by first | exact Kd.S_nil _ _ _ _ _ | exact Kd.N_nil _ _ _ _ _ | exact Kd.V_nil _ _ _ _ _ | exact Kd.Q_nil _ _ _ _ _ | exact Kd.R_nil _ _ _ _ _, qF⟩
end
section
open Go.Proofs.YtphmgaijkdflnaaDoorW.PrintWords Go.Proofs.YtphmgaijkdflnaaDoorW.PrintLast Go.Proofs.YtphmgaijkdflnaaDoorW.PrintMore
theorem up {α : Type} {f : Nat → Option α} (hm : ∀ k, LeO (f k) (f (k + 1))) {k m : Nat} (h : k ≤ m) {v : α} (hk : f k = some v) : f m = some v := by
 induction m with
 | zero =>
  obtain rfl : k = 0 := by omega
  exact hk
 | succ m ih =>
  rcases Nat.lt_or_ge k (m + 1) with q | q
  ·exact hm m v (ih (by omega))
  ·obtain rfl : k = m + 1 := by omega
   exact hk
theorem wrap_id {n : Int} (h0 : -9223372036854775808 ≤ n) (h1 : n ≤ 9223372036854775807) : wrap64 n = n := by
 unfold wrap64
 omega
theorem wf_i64 {n : Int} (h : (Lit.int .i64 n).wf = true) : -9223372036854775808 ≤ n ∧ n ≤ 9223372036854775807 := bounds_i64 h
end
section
open Go.Proofs.YtphmgaijkdflnaaDoorW.PrintWords Go.Proofs.YtphmgaijkdflnaaDoorW.PrintLast Go.Proofs.YtphmgaijkdflnaaDoorW.PrintMore
attribute [local go_sem] max2_int min2_int max_two min_two max_three min_three max_four min_four
mutual
def arboristref15_Few.j1 : Nat → Int → Int → List ByteArray → List ByteArray → List Int → List (S58) → List (S61) → Option (Bool)
 | 0, _, _, _, _, _, _, _ => none
 | k + 1, x1, x5, x201000, x201001, x201002, x201003, x201004 => arboristref15_Few.l1 k x1 x5 0 x201000 x201001 x201002 x201003 x201004
def arboristref15_Few.l1 : Nat → Int → Int → Int → List ByteArray → List ByteArray → List Int → List (S58) → List (S61) → Option (Bool)
 | 0, _, _, _, _, _, _, _, _ => none
 | k + 1, x1, x5, x7, x201000, x201001, x201002, x201003, x201004 => if x7 < (x201004.length : Int) then (if x7 < 50 then (if 0 ≤ x7 then (arboristref15_Few.l1 k x1 (wrap64 (x5 + (((rd_T61 x201004 x7).f1).length : Int))) (wrap64 (x7 + 1)) x201000 x201001 x201002 x201003 x201004) else (none)) else (if (x201003.length : Int) ≤ x1 then (if (x201000.length : Int) ≤ 60 then (if (x201001.length : Int) ≤ 60 then (if (x201002.length : Int) ≤ 60 then (if (x201004.length : Int) ≤ 40 then (some (decide (x5 ≤ (wrap64 ((wrap64 (8 * x1)) + 40))))) else (some false)) else (some false)) else (some false)) else (some false)) else (some false))) else (if (x201003.length : Int) ≤ x1 then (if (x201000.length : Int) ≤ 60 then (if (x201001.length : Int) ≤ 60 then (if (x201002.length : Int) ≤ 60 then (if (x201004.length : Int) ≤ 40 then (some (decide (x5 ≤ (wrap64 ((wrap64 (8 * x1)) + 40))))) else (some false)) else (some false)) else (some false)) else (some false)) else (some false))
def arboristref15_Few.l0 : Nat → Int → Int → Int → List ByteArray → List ByteArray → List Int → List (S58) → List (S61) → Option (Bool)
 | 0, _, _, _, _, _, _, _, _ => none
 | k + 1, x1, x5, x6, x201000, x201001, x201002, x201003, x201004 => if x6 < (x201003.length : Int) then (if x6 ≤ x1 then (if 0 ≤ x6 then (arboristref15_Few.l0 k x1 (wrap64 (x5 + (wrap64 ((((rd_T58 x201003 x6).f1).length : Int) + (((rd_T58 x201003 x6).f2).length : Int))))) (wrap64 (x6 + 1)) x201000 x201001 x201002 x201003 x201004) else (none)) else (arboristref15_Few.j1 k x1 x5 x201000 x201001 x201002 x201003 x201004)) else (arboristref15_Few.j1 k x1 x5 x201000 x201001 x201002 x201003 x201004)
end
def arboristref15_Few.f (k : Nat) (l0_0 : List ByteArray) (l0_1 : List ByteArray) (l0_2 : List Int) (l0_3 : List (S58)) (l0_4 : List (S61)) (a1 : Int) : Option (Bool) := arboristref15_Few.l0 k a1 0 0 l0_0 l0_1 l0_2 l0_3 l0_4
theorem arboristref15_Few.mono_l : ∀ k, (∀ y0 y1 y2 y3 y4 y5 y6, LeO (arboristref15_Few.j1 k y0 y1 y2 y3 y4 y5 y6) (arboristref15_Few.j1 (k + 1) y0 y1 y2 y3 y4 y5 y6)) ∧ (∀ y0 y1 y2 y3 y4 y5 y6 y7, LeO (arboristref15_Few.l1 k y0 y1 y2 y3 y4 y5 y6 y7) (arboristref15_Few.l1 (k + 1) y0 y1 y2 y3 y4 y5 y6 y7)) ∧ (∀ y0 y1 y2 y3 y4 y5 y6 y7, LeO (arboristref15_Few.l0 k y0 y1 y2 y3 y4 y5 y6 y7) (arboristref15_Few.l0 (k + 1) y0 y1 y2 y3 y4 y5 y6 y7))
 | 0 => ⟨fun _ _ _ _ _ _ _ r h => by simp [arboristref15_Few.j1] at h, fun _ _ _ _ _ _ _ _ r h => by simp [arboristref15_Few.l1] at h, fun _ _ _ _ _ _ _ _ r h => by simp [arboristref15_Few.l0] at h⟩
 | k + 1 => by
  obtain ⟨ih0, ih1, ih2⟩ := arboristref15_Few.mono_l k; refine ⟨?_, ?_, ?_⟩
  ·intro y0 y1 y2 y3 y4 y5 y6
   (unfold arboristref15_Few.j1); exact qL
  ·intro y0 y1 y2 y3 y4 y5 y6 y7
   (unfold arboristref15_Few.l1); exact qL
  ·intro y0 y1 y2 y3 y4 y5 y6 y7
   (unfold arboristref15_Few.l0); exact qL
theorem arboristref15_Few.mono : ∀ a0 a1 a2 a3 a4 a5 k, LeO (arboristref15_Few.f k a0 a1 a2 a3 a4 a5) (arboristref15_Few.f (k + 1) a0 a1 a2 a3 a4 a5) := by
 (intro a0 a1 a2 a3 a4 a5 k); obtain ⟨ih0, ih1, ih2⟩ := arboristref15_Few.mono_l k; (unfold arboristref15_Few.f); exact qL
theorem arboristref15_Few.calls (k : Nat) (A0_0 : Option Addr) (c0_0 : Nat) (l0_0 : List ByteArray) (A0_1 : Option Addr) (c0_1 : Nat) (l0_1 : List ByteArray) (A0_2 : Option Addr) (c0_2 : Nat) (l0_2 : List Int) (A0_3 : Option Addr) (c0_3 : Nat) (l0_3 : List (S58)) (A0_4 : Option Addr) (c0_4 : Nat) (l0_4 : List (S61)) (a1 : Int) (r : Bool) (w : World) (hr0_0 : Kd.C Kd.string w A0_0 l0_0.length l0_0) (hc0_0 : l0_0.length ≤ c0_0) (hr0_1 : Kd.C Kd.string w A0_1 l0_1.length l0_1) (hc0_1 : l0_1.length ≤ c0_1) (hr0_2 : Kd.C (Kd.int .i64) w A0_2 l0_2.length l0_2) (hc0_2 : l0_2.length ≤ c0_2) (hr0_3 : Kd.C k58 w A0_3 l0_3.length l0_3) (hc0_3 : l0_3.length ≤ c0_3) (hr0_4 : Kd.C k61 w A0_4 l0_4.length l0_4) (hc0_4 : l0_4.length ≤ c0_4) (h : arboristref15_Few.f k l0_0 l0_1 l0_2 l0_3 l0_4 a1 = some r) :
  Calls Tryd.prog 23 #[.agg #[.slice A0_0 l0_0.length c0_0, .slice A0_1 l0_1.length c0_1, .slice A0_2 l0_2.length c0_2, .slice A0_3 l0_3.length c0_3, .slice A0_4 l0_4.length c0_4], .int .i64 a1] w fun e w' => e = .returned (.bool r) ∧ Below w.heap.size w w' := by
 have hu40 := Tryd.underlying40; have HR0_0 := qM hr0_0; have HC0_0 := qM hc0_0; clear hr0_0 hc0_0; have HR0_1 := qM hr0_1; have HC0_1 := qM hc0_1; clear hr0_1 hc0_1; have HR0_2 := qM hr0_2; have HC0_2 := qM hc0_2; clear hr0_2 hc0_2; have HR0_3 := qM hr0_3; have HC0_3 := qM hc0_3; clear hr0_3 hc0_3; have HR0_4 := qM hr0_4; have HC0_4 := qM hc0_4; clear hr0_4 hc0_4; have HB := qM (Below.refl w.heap.size w); have H : (arboristref15_Few.l0 k a1 0 0 l0_0 l0_1 l0_2 l0_3 l0_4) = some r := h; clear h; have HC3 := qM H; clear H; (go_enter Tryd.func23, Tryd.ntmps23)
 go_upto_block 0 with (first | ((with_reducible refine gate_dst (N := 2) rfl ?_); (try (refine gate_guard (by rfl) ?_; dsimp only)); refine box_event ?hg (N := 2) ?hd (cs := #[.slice A0_0 l0_0.length c0_0, .slice A0_1 l0_1.length c0_1, .slice A0_2 l0_2.length c0_2, .slice A0_3 l0_3.length c0_3, .slice A0_4 l0_4.length c0_4]) (t := 40) ?hr ?_; (case hd | hg => rfl); (case hr => first | (go_simp; done) | (go_simp; rfl)); intro gb200 hg w4 hbox hb; have BK200 := qM (hbox); have GW200 := qM (qG hg); have GE200 := GW200; replace HB := qM (qP qF hb); clear hb hbox hg))
 repeat (go_quiet (first | ((with_reducible refine gate_dst (N := 2) rfl ?_); (try (refine gate_guard (by rfl) ?_; dsimp only)); refine box_event ?hg (N := 2) ?hd (cs := #[.slice A0_0 l0_0.length c0_0, .slice A0_1 l0_1.length c0_1, .slice A0_2 l0_2.length c0_2, .slice A0_3 l0_3.length c0_3, .slice A0_4 l0_4.length c0_4]) (t := 40) ?hr ?_; (case hd | hg => rfl); (case hr => first | (go_simp; done) | (go_simp; rfl)); intro gb200 hg w4 hbox hb; have BK200 := qM (hbox); have GW200 := qM (qG hg); have GE200 := GW200; replace HB := qM (qP qF hb); clear hb hbox hg)); go_upto_block 0 with (first | ((with_reducible refine gate_dst (N := 2) rfl ?_); (try (refine gate_guard (by rfl) ?_; dsimp only)); refine box_event ?hg (N := 2) ?hd (cs := #[.slice A0_0 l0_0.length c0_0, .slice A0_1 l0_1.length c0_1, .slice A0_2 l0_2.length c0_2, .slice A0_3 l0_3.length c0_3, .slice A0_4 l0_4.length c0_4]) (t := 40) ?hr ?_; (case hd | hg => rfl); (case hr => first | (go_simp; done) | (go_simp; rfl)); intro gb200 hg w4 hbox hb; have BK200 := qM (hbox); have GW200 := qM (qG hg); have GE200 := GW200; replace HB := qM (qP qF hb); clear hb hbox hg)))
 (try simp only [Act.put, List.setIfInBounds_toArray, List.set_cons_zero, List.set_cons_succ]); (go_cut [5] (fun v5 wc => ∃ (kq : Nat) (x5_2 : Int), v5 = .int .i64 x5_2 ∧ Aside0 (arboristref15_Few.j1 kq a1 x5_2 l0_0 l0_1 l0_2 l0_3 l0_4 = some r) ∧ Aside0 (kq ≤ k) ∧ Aside0 (wc.heap[gb200]? = some (.cells #[(.slice A0_0 l0_0.length c0_0), (.slice A0_1 l0_1.length c0_1), (.slice A0_2 l0_2.length c0_2), (.slice A0_3 l0_3.length c0_3), (.slice A0_4 l0_4.length c0_4)] 40 (0, 0))) ∧ Aside0 (Below w.heap.size w wc)))
 case first =>
  have H := HC3.out; clear HC3; have H' := qM H; clear H; go_wp2; (repeat (go_quiet (fail); try go_wp2)); (go_loopg [5, 6] k (fun kq v5 v6 w' => ∃ (x5_1 : Int) (x6_1 : Int), v5 = .int .i64 x5_1 ∧ v6 = .int .i64 x6_1 ∧ Aside0 (arboristref15_Few.l0 kq a1 x5_1 x6_1 l0_0 l0_1 l0_2 l0_3 l0_4 = some r) ∧ Aside0 (kq ≤ k) ∧ Aside0 (w'.heap[gb200]? = some (.cells #[(.slice A0_0 l0_0.length c0_0), (.slice A0_1 l0_1.length c0_1), (.slice A0_2 l0_2.length c0_2), (.slice A0_3 l0_3.length c0_3), (.slice A0_4 l0_4.length c0_4)] 40 (0, 0))) ∧ Aside0 (Below w.heap.size w w')))
  case atStart => exact ⟨(0), (0), qV, qV, H', ⟨Nat.le_refl _⟩, ⟨qK⟩, ⟨qF⟩⟩
  case round =>
   (clear H'); (try clear c2); (try clear p2); obtain ⟨x5_1, x6_1, rfl, rfl, HA, HK1, BK200, HB⟩ := hrel
   cases gk with
   | zero => exact absurd HA.out (by simp [arboristref15_Few.l0])
   | succ k1 =>
    have H := HA.out; clear HA; (simp only [arboristref15_Few.l0] at H); have hz8 := bx5 BK200.out; (refine iteD ?_ ?_ H <;> clear H <;> intro c5b0 H)
    ·(first | rw [c5b0] | (simp only [i64_w, i32_w]; rw [c5b0]) | skip)
     refine iteD ?_ ?_ H <;> clear H <;> intro c6b0 H
     ·refine iteN ?_ H
      clear H; (intro c7b0 H); have H' := qM H; clear H; have p201 : 0 ≤ (x6_1 : Int) := qo qX; have q201 : x6_1 < (l0_3.length : Int) := qo qX; obtain ⟨ad201, A201_1, c201_1, A201_2, c201_2, e201, hx201_0, hx201_1, hx201_2, hx201_3, hx201_4, hl201_1, hi201_1, hl201_2, hi201_2⟩ := at_T58 HR0_3.out x6_1 p201 q201
      cases e201
      replace hx201_0 := qv HB.out hx201_0; replace hx201_1 := qv HB.out hx201_1; replace hx201_2 := qv HB.out hx201_2; replace hx201_3 := qv HB.out hx201_3; replace hx201_4 := qv HB.out hx201_4; have HR201_1 := qM hi201_1; have HC201_1 := qM hl201_1; clear hi201_1 hl201_1; have HR201_2 := qM hi201_2; have HC201_2 := qM hl201_2; clear hi201_2 hl201_2; replace p201 := eq_true p201; replace q201 := eq_true q201; have p202 : 0 ≤ (x6_1 : Int) := qo qX; have q202 : x6_1 < (l0_3.length : Int) := qo qX; obtain ⟨ad202, A202_1, c202_1, A202_2, c202_2, e202, hx202_0, hx202_1, hx202_2, hx202_3, hx202_4, hl202_1, hi202_1, hl202_2, hi202_2⟩ := at_T58 HR0_3.out x6_1 p202 q202; obtain rfl : ad201 = ad202 := (by injection e202); replace hx202_0 := qv HB.out hx202_0; replace hx202_1 := qv HB.out hx202_1; replace hx202_2 := qv HB.out hx202_2; replace hx202_3 := qv HB.out hx202_3; replace hx202_4 := qv HB.out hx202_4; have HR202_1 := qM hi202_1; have HC202_1 := qM hl202_1; clear hi202_1 hl202_1; have HR202_2 := qM hi202_2; have HC202_2 := qM hl202_2; clear hi202_2 hl202_2; replace p202 := eq_true p202; replace q202 := eq_true q202; have ea_ := Option.some.inj (hx201_1.symm.trans hx202_1); (injection ea_ with ea_ en_ ec_); subst ea_; subst ec_; clear en_; have ea_ := Option.some.inj (hx201_2.symm.trans hx202_2); (injection ea_ with ea_ en_ ec_); subst ea_; subst ec_; clear en_; go_wp2; (repeat (go_quiet (fail); try go_wp2)); (go_roundg k1)
      case measure => have := HK1.out; omega
      case rel => exact ⟨(wrap64 (x5_1 + (wrap64 ((((rd_T58 l0_3 x6_1).f1).length : Int) + (((rd_T58 l0_3 x6_1).f2).length : Int))))), (wrap64 (x6_1 + 1)), qV, qV, H', ⟨by have := HK1.out; omega⟩, ⟨qK⟩, ⟨qF⟩⟩
     ·have H' := qM H
      clear H; go_wp2; (repeat (go_quiet (fail); try go_wp2)); go_meet
      case rel => exact ⟨_, (x5_1), qV, H', ⟨by have := HK1.out; first | omega | exact Nat.le_refl _⟩, ⟨qK⟩, ⟨qF⟩⟩
    ·(first | rw [c5b0] | (simp only [i64_w, i32_w]; rw [c5b0]) | skip)
     have H' := qM H; clear H; go_wp2; (repeat (go_quiet (fail); try go_wp2)); go_meet
     case rel => exact ⟨_, (x5_1), qV, H', ⟨by have := HK1.out; first | omega | exact Nat.le_refl _⟩, ⟨qK⟩, ⟨qF⟩⟩
 case rest =>
  clear HC3; (try clear c2); (try clear p2); (try clear q2); (try clear hx2); (try clear c5); (try clear c5b0); (try clear c6); (try clear c6b0); (try clear p6); (try clear c7); (try clear c7b0); (try clear hz8); (try clear hx201_0 hx201_1 hx201_2 hx201_3 hx201_4); (try clear hx202_0 hx202_1 hx202_2 hx202_3 hx202_4); (try clear p2); (try clear p201); (try clear p202); (try clear q201); (try clear q202); obtain ⟨kq, x5_2, rfl, HA, HJ2, BK200, HB⟩ := hcut
  cases kq with
  | zero => exact absurd HA.out (by simp [arboristref15_Few.j1])
  | succ kj2 =>
   have H := HA.out; clear HA; (simp only [arboristref15_Few.j1] at H); have H' := qM H; clear H; go_wp2; (repeat (go_quiet (fail); try go_wp2)); (go_loopg [5, 7] kj2 (fun kq v5 v7 w' => ∃ (x5_2 : Int) (x7_2 : Int), v5 = .int .i64 x5_2 ∧ v7 = .int .i64 x7_2 ∧ Aside0 (arboristref15_Few.l1 kq a1 x5_2 x7_2 l0_0 l0_1 l0_2 l0_3 l0_4 = some r) ∧ Aside0 (kq ≤ kj2) ∧ Aside0 (w'.heap[gb200]? = some (.cells #[(.slice A0_0 l0_0.length c0_0), (.slice A0_1 l0_1.length c0_1), (.slice A0_2 l0_2.length c0_2), (.slice A0_3 l0_3.length c0_3), (.slice A0_4 l0_4.length c0_4)] 40 (0, 0))) ∧ Aside0 (Below w.heap.size w w')))
   case atStart => exact ⟨(x5_2), (0), qV, qV, H', ⟨Nat.le_refl _⟩, ⟨qK⟩, ⟨qF⟩⟩
   case round =>
    (clear H'); (try clear c2); (try clear p2); (try clear q2); (try clear hx2); (try clear c5); (try clear c5b0); (try clear c6); (try clear c6b0); (try clear p6); (try clear c7); (try clear c7b0); (try clear hz8); (try clear hx201_0 hx201_1 hx201_2 hx201_3 hx201_4); (try clear hx202_0 hx202_1 hx202_2 hx202_3 hx202_4); (try clear p2); (try clear p201); (try clear p202); (try clear p6); (try clear q2); (try clear q201); (try clear q202); obtain ⟨x5_2, x7_2, rfl, rfl, HA, HK2, BK200, HB⟩ := hrel
    cases gk with
    | zero => exact absurd HA.out (by simp [arboristref15_Few.l1])
    | succ k2 =>
     have H := HA.out; clear HA; (simp only [arboristref15_Few.l1] at H); have hz14 := bx5 BK200.out; (refine iteD ?_ ?_ H <;> clear H <;> intro c11b0 H)
     ·refine iteD ?_ ?_ H <;> clear H <;> intro c12b0 H
      ·refine iteN ?_ H
       clear H; (intro c13b0 H); have H' := qM H; clear H; have p203 : 0 ≤ (x7_2 : Int) := qo qX; have q203 : x7_2 < (l0_4.length : Int) := qo qX; obtain ⟨ad203, A203_1, c203_1, e203, hx203_0, hx203_1, hl203_1, hi203_1⟩ := at_T61 HR0_4.out x7_2 p203 q203
       cases e203
       replace hx203_0 := qv HB.out hx203_0; replace hx203_1 := qv HB.out hx203_1; have HR203_1 := qM hi203_1; have HC203_1 := qM hl203_1; clear hi203_1 hl203_1; replace p203 := eq_true p203; replace q203 := eq_true q203; go_wp2; (repeat (go_quiet (fail); try go_wp2)); (go_roundg k2)
       case measure => have := HJ2.out; have := HK2.out; omega
       case rel => exact ⟨(wrap64 (x5_2 + (((rd_T61 l0_4 x7_2).f1).length : Int))), (wrap64 (x7_2 + 1)), qV, qV, H', ⟨by have := HJ2.out; have := HK2.out; omega⟩, ⟨qK⟩, ⟨qF⟩⟩
      ·refine iteD ?_ ?_ H <;> clear H <;> intro c15b0 H
       ·refine iteR ?_ ?_ H <;> clear H <;> intro c16 H
        ·have c16b0 := decide_eq_true c16
         have c16b1 : decide (l0_0.length ≤ 60) = true := decide_eq_true (by omega); clear c16; (refine iteR ?_ ?_ H <;> clear H <;> intro c17 H)
         ·have c17b0 := decide_eq_true c17
          have c17b1 : decide (l0_1.length ≤ 60) = true := decide_eq_true (by omega); clear c17; (refine iteR ?_ ?_ H <;> clear H <;> intro c18 H)
          ·have c18b0 := decide_eq_true c18
           have c18b1 : decide (l0_2.length ≤ 60) = true := decide_eq_true (by omega); clear c18; (refine iteR ?_ ?_ H <;> clear H <;> intro c19 H)
           ·have c19b0 := decide_eq_true c19
            have c19b1 : decide (l0_4.length ≤ 40) = true := decide_eq_true (by omega); clear c19; obtain rfl := Option.some.inj H; go_wp2; (repeat (go_quiet (fail); try go_wp2)); (go_ret); exact ⟨qE, qF⟩
           ·have c19b0 := decide_eq_false c19
            have c19b1 : decide (l0_4.length ≤ 40) = false := decide_eq_false (by omega); clear c19; obtain rfl := Option.some.inj H; go_wp2; (repeat (go_quiet (fail); try go_wp2)); (go_ret); exact ⟨qE, qF⟩
          ·have c18b0 := decide_eq_false c18
           have c18b1 : decide (l0_2.length ≤ 60) = false := decide_eq_false (by omega); clear c18; obtain rfl := Option.some.inj H; go_wp2; (repeat (go_quiet (fail); try go_wp2)); (go_ret); exact ⟨qE, qF⟩
         ·have c17b0 := decide_eq_false c17
          have c17b1 : decide (l0_1.length ≤ 60) = false := decide_eq_false (by omega); clear c17; obtain rfl := Option.some.inj H; go_wp2; (repeat (go_quiet (fail); try go_wp2)); (go_ret); exact ⟨qE, qF⟩
        ·have c16b0 := decide_eq_false c16
         have c16b1 : decide (l0_0.length ≤ 60) = false := decide_eq_false (by omega); clear c16; obtain rfl := Option.some.inj H; go_wp2; (repeat (go_quiet (fail); try go_wp2)); (go_ret); exact ⟨qE, qF⟩
       ·obtain rfl := Option.some.inj H
        go_wp2; (repeat (go_quiet (fail); try go_wp2)); (go_ret); exact ⟨qE, qF⟩
     ·refine iteD ?_ ?_ H <;> clear H <;> intro c26b0 H
      ·refine iteR ?_ ?_ H <;> clear H <;> intro c27 H
       ·have c27b0 := decide_eq_true c27
        have c27b1 : decide (l0_0.length ≤ 60) = true := decide_eq_true (by omega); clear c27; (refine iteR ?_ ?_ H <;> clear H <;> intro c28 H)
        ·have c28b0 := decide_eq_true c28
         have c28b1 : decide (l0_1.length ≤ 60) = true := decide_eq_true (by omega); clear c28; (refine iteR ?_ ?_ H <;> clear H <;> intro c29 H)
         ·have c29b0 := decide_eq_true c29
          have c29b1 : decide (l0_2.length ≤ 60) = true := decide_eq_true (by omega); clear c29; (refine iteR ?_ ?_ H <;> clear H <;> intro c30 H)
          ·have c30b0 := decide_eq_true c30
           have c30b1 : decide (l0_4.length ≤ 40) = true := decide_eq_true (by omega); clear c30; obtain rfl := Option.some.inj H; go_wp2; (repeat (go_quiet (fail); try go_wp2)); (go_ret); exact ⟨qE, qF⟩
          ·have c30b0 := decide_eq_false c30
           have c30b1 : decide (l0_4.length ≤ 40) = false := decide_eq_false (by omega); clear c30; obtain rfl := Option.some.inj H; go_wp2; (repeat (go_quiet (fail); try go_wp2)); (go_ret); exact ⟨qE, qF⟩
         ·have c29b0 := decide_eq_false c29
          have c29b1 : decide (l0_2.length ≤ 60) = false := decide_eq_false (by omega); clear c29; obtain rfl := Option.some.inj H; go_wp2; (repeat (go_quiet (fail); try go_wp2)); (go_ret); exact ⟨qE, qF⟩
        ·have c28b0 := decide_eq_false c28
         have c28b1 : decide (l0_1.length ≤ 60) = false := decide_eq_false (by omega); clear c28; obtain rfl := Option.some.inj H; go_wp2; (repeat (go_quiet (fail); try go_wp2)); (go_ret); exact ⟨qE, qF⟩
       ·have c27b0 := decide_eq_false c27
        have c27b1 : decide (l0_0.length ≤ 60) = false := decide_eq_false (by omega); clear c27; obtain rfl := Option.some.inj H; go_wp2; (repeat (go_quiet (fail); try go_wp2)); (go_ret); exact ⟨qE, qF⟩
      ·obtain rfl := Option.some.inj H
       go_wp2; (repeat (go_quiet (fail); try go_wp2)); (go_ret); exact ⟨qE, qF⟩
end
section
open Go.Proofs.YtphmgaijkdflnaaDoorW.PrintWords Go.Proofs.YtphmgaijkdflnaaDoorW.PrintLast Go.Proofs.YtphmgaijkdflnaaDoorW.PrintMore
def sumR : List S58 → Nat
 | [] => 0
 | x :: r => x.f1.length + x.f2.length + sumR r
def sumL : List S61 → Nat
 | [] => 0
 | x :: r => x.f1.length + sumL r
structure Small (l0 l1 : List ByteArray) (l2 : List Int) (l3 : List S58) (l4 : List S61) : Prop where
 h0 : l0.length ≤ 60
 h1 : l1.length ≤ 60
 h2 : l2.length ≤ 60
 h3 : l3.length ≤ 30
 h4 : l4.length ≤ 40
 hs : sumR l3 + sumL l4 ≤ 280
variable (l0 l1 : List ByteArray) (l2 : List Int) (l3 : List S58) (l4 : List S61)
theorem drop_cons {α : Type} {l : List α} {i : Nat} {x : α} {r : List α} (h : l.drop i = x :: r) : i < l.length ∧ l.drop (i + 1) = r ∧ ∀ d, l.getD i d = x := by
 have hi : i < l.length := by
  rcases Nat.lt_or_ge i l.length with q | q
  ·exact q
  ·rw [List.drop_of_length_le q] at h; cases h
 refine ⟨hi, ?_, fun d => ?_⟩
 ·rw [List.drop_eq_getElem_cons hi] at h; injection h
 ·rw [List.drop_eq_getElem_cons hi] at h
  injection h with h1 h2
  rw [List.getD_eq_getElem?_getD, List.getElem?_eq_getElem hi, h1]; rfl
theorem drop_nil {α : Type} {l : List α} {i : Nat} (h : l.drop i = []) : l.length ≤ i := by simpa using h
theorem few_end (n : Int) : ∃ v, (if (l3.length : Int) ≤ 30 then (if (l0.length : Int) ≤ 60 then (if (l1.length : Int) ≤ 60 then (if (l2.length : Int) ≤ 60 then (if (l4.length : Int) ≤ 40 then (some (decide (n ≤ (wrap64 ((wrap64 (8 * 30)) + 40))))) else (some false)) else (some false)) else (some false)) else (some false)) else (some false)) = some v ∧ (v = true → l0.length ≤ 60 ∧ l1.length ≤ 60 ∧ l2.length ≤ 60 ∧ l3.length ≤ 30 ∧ l4.length ≤ 40 ∧ n ≤ 280) := by
 have e : wrap64 ((wrap64 (8 * 30)) + 40) = 280 := by kernel_rfl
 rw [e]
 repeat' split
 ·exact ⟨_, rfl, fun h => by simp at h; omega⟩
 all_goals exact ⟨_, rfl, fun h => by cases h⟩
theorem few_l1 (hl4 : ∀ x ∈ l4, ok61 x) : ∀ (rest : List S61) (j : Nat) (n : Int), l4.drop j = rest → j ≤ 50 → 0 ≤ n → n ≤ 9007199254740992 + j * 35184372088832 →
  ∃ k v, arboristref15_Few.l1 k 30 n (j : Int) l0 l1 l2 l3 l4 = some v ∧ (v = true → l0.length ≤ 60 ∧ l1.length ≤ 60 ∧ l2.length ≤ 60 ∧ l3.length ≤ 30 ∧ l4.length ≤ 40 ∧ n + sumL rest ≤ 280) := by
 intro rest
 induction rest with
 | nil =>
  intro j n hd hj hn hn2
  have := drop_nil hd
  obtain ⟨v, hv, hp⟩ := few_end l0 l1 l2 l3 l4 n
  refine ⟨1, v, ?_, fun h => by have := hp h; simp [sumL]; omega⟩
  simp only [arboristref15_Few.l1]
  rw [if_neg (by omega)]
  exact hv
 | cons x r ih =>
  intro j n hd hj hn hn2
  obtain ⟨hi, hr, hx⟩ := drop_cons hd
  by_cases h50 : j < 50
  ·have hxo := (ok61_iff x).1 (hl4 x (by rw [← hx ⟨0, []⟩, List.getD_eq_getElem?_getD, List.getElem?_eq_getElem hi]; exact List.getElem_mem hi))
   have hlen : x.f1.length ≤ 17592186044416 := by have := hxo.2.1; unfold reachBytes at this; omega
   have hw : wrap64 (n + (x.f1.length : Int)) = n + (x.f1.length : Int) := wrap_id (by omega) (by omega)
   obtain ⟨k, v, hv, hp⟩ := ih (j + 1) (n + x.f1.length) hr (by omega) (by omega) (by push_cast; omega)
   refine ⟨k + 1, v, ?_, fun h => by have := hp h; simp [sumL]; omega⟩
   simp only [arboristref15_Few.l1]
   rw [if_pos (by omega), if_pos (by omega), if_pos (by omega)]
   have e1 : (rd_T61 l4 (j : Int)) = x := by unfold rd_T61; simpa using hx _
   rw [e1, hw, show wrap64 ((j : Int) + 1) = ((j + 1 : Nat) : Int) from by rw [wrap_id (by omega) (by omega)]; push_cast; rfl]
   exact hv
  ·obtain rfl : j = 50 := by omega
   obtain ⟨v, hv, hp⟩ := few_end l0 l1 l2 l3 l4 n
   refine ⟨1, v, ?_, fun h => by have := hp h; omega⟩
   simp only [arboristref15_Few.l1]
   rw [if_pos (by omega), if_neg (by omega)]
   exact hv
theorem few_l0 (hl3 : ∀ x ∈ l3, ok58 x) (hl4 : ∀ x ∈ l4, ok61 x) : ∀ (rest : List S58) (j : Nat) (n : Int), l3.drop j = rest → j ≤ 31 → 0 ≤ n → n ≤ j * 140737488355328 →
  ∃ k v, arboristref15_Few.l0 k 30 n (j : Int) l0 l1 l2 l3 l4 = some v ∧ (v = true → l0.length ≤ 60 ∧ l1.length ≤ 60 ∧ l2.length ≤ 60 ∧ l3.length ≤ 30 ∧ l4.length ≤ 40 ∧ n + sumR rest + sumL l4 ≤ 280) := by
 intro rest
 induction rest with
 | nil =>
  intro j n hd hj hn hn2
  have := drop_nil hd
  obtain ⟨k, v, hv, hp⟩ := few_l1 l0 l1 l2 l3 l4 hl4 l4 0 n rfl (by omega) hn (by omega)
  refine ⟨k + 2, v, ?_, fun h => by have := hp h; simp [sumR]; omega⟩
  simp only [arboristref15_Few.l0]
  rw [if_neg (by omega)]
  simp only [arboristref15_Few.j1]
  exact hv
 | cons x r ih =>
  intro j n hd hj hn hn2
  obtain ⟨hi, hr, hx⟩ := drop_cons hd
  by_cases h50 : j ≤ 30
  ·have hxo := (ok58_iff x).1 (hl3 x (by rw [← hx ⟨0, [], [], ⟨#[]⟩, 0⟩, List.getD_eq_getElem?_getD, List.getElem?_eq_getElem hi]; exact List.getElem_mem hi))
   have hlen : x.f1.length ≤ 17592186044416 := by have := hxo.2.1.1; unfold reachBytes at this; omega
   have hlen2 : x.f2.length ≤ 17592186044416 := by have := hxo.2.2.1.1; unfold reachBytes at this; omega
   have hw1 : wrap64 ((x.f1.length : Int) + (x.f2.length : Int)) = (x.f1.length : Int) + (x.f2.length : Int) := wrap_id (by omega) (by omega)
   have hw : wrap64 (n + ((x.f1.length : Int) + (x.f2.length : Int))) = n + ((x.f1.length + x.f2.length : Nat) : Int) := by rw [wrap_id (by omega) (by omega)]; push_cast; rfl
   obtain ⟨k, v, hv, hp⟩ := ih (j + 1) (n + ((x.f1.length + x.f2.length : Nat) : Int)) hr (by omega) (by omega) (by push_cast; omega)
   refine ⟨k + 1, v, ?_, fun h => by have := hp h; simp [sumR]; omega⟩
   simp only [arboristref15_Few.l0]
   rw [if_pos (by omega), if_pos (by omega), if_pos (by omega)]
   have e1 : (rd_T58 l3 (j : Int)) = x := by unfold rd_T58; simpa using hx _
   rw [e1, hw1, hw, show wrap64 ((j : Int) + 1) = ((j + 1 : Nat) : Int) from by rw [wrap_id (by omega) (by omega)]; push_cast; rfl]
   exact hv
  ·obtain rfl : j = 31 := by omega
   obtain ⟨k, v, hv, hp⟩ := few_l1 l0 l1 l2 l3 l4 hl4 l4 0 n rfl (by omega) hn (by omega)
   refine ⟨k + 2, v, ?_, fun h => by have := hp h; omega⟩
   simp only [arboristref15_Few.l0]
   rw [if_pos (by omega), if_neg (by omega)]
   simp only [arboristref15_Few.j1]
   exact hv
theorem few_ends (x : S40) (hx : ok40 x) : ∃ k v, arboristref15_Few.f k x.f0 x.f1 x.f2 x.f3 x.f4 30 = some v ∧ (v = true → Small x.f0 x.f1 x.f2 x.f3 x.f4) := by
 have h := (ok40_iff x).1 hx
 obtain ⟨k, v, hv, hp⟩ := few_l0 x.f0 x.f1 x.f2 x.f3 x.f4 h.2.2.2.1.2 h.2.2.2.2.2 x.f3 0 0 rfl (by omega) (by omega) (by omega)
 refine ⟨k, v, hv, fun ht => ?_⟩
 have := hp ht
 exact ⟨this.1, this.2.1, this.2.2.1, this.2.2.2.1, this.2.2.2.2.1, by omega⟩
end
section
open Go.Proofs.YtphmgaijkdflnaaDoorW.PrintWords Go.Proofs.YtphmgaijkdflnaaDoorW.PrintLast Go.Proofs.YtphmgaijkdflnaaDoorW.PrintMore
def badO (k : Int) : Bool := decide (k < 0) || decide (k > 5)
def sumF : List S58 → Nat
 | [] => 0
 | x :: r => x.f1.length + sumF r
section
variable (l0 l1 : List ByteArray) (l2 : List Int) (l3 : List S58) (l4 : List S61)
def countsS : Bool := decide (2 ≤ l0.length ∧ l0.length ≤ 256) && (decide (1 ≤ l1.length ∧ l1.length ≤ 512) && (decide (l2.length = l1.length) && (!(l2.any badO) && (decide (1 ≤ l3.length ∧ l3.length ≤ 1024) && (decide (l4.length ≤ 32) && decide (sumF l3 ≤ 8192))))))
def thereS (s : Int) : Bool := decide (s < l0.length) && decide (-(l1.length : Int) ≤ s)
def symBad (s : Int) : Bool := !(thereS l0 l1 s) || (decide (-1 ≤ s) && decide (s ≤ 1))
def startOf (f0 : Int) (b : Bool) : List Int → Bool
 | [s] => decide (f0 = 0) && (decide (s < -1) && (thereS l0 l1 s && !b))
 | _ => false
def startS : List S58 → Bool
 | [] => false
 | x :: r => startOf l0 l1 x.f0 (r.any (fun y => decide (y.f0 = 0))) x.f1
def ruleS (x : S58) (ahead : Int) : Int :=
 if ¬ (0 ≤ x.f0 ∧ x.f0 ≤ (l1.length : Int) - 1) ∨ x.f0 < ahead ∨ 32 < x.f1.length then 22 else if x.f1.any (symBad l0 l1) = true then 21 else if x.f2.length ≠ 0 ∧ x.f2.length ≠ x.f1.length then 25 else if ¬ (0 ≤ x.f4 ∧ x.f4 ≤ (l4.length : Int)) then 24 else 0
def rulesS : Int → List S58 → Int
 | _, [] => 0
 | ahead, x :: r => if ruleS l0 l1 l4 x ahead = 0 then rulesS x.f0 r else ruleS l0 l1 l4 x ahead
def rightS : Int :=
 if countsS l0 l1 l2 l3 l4 = false then 9 else if (l0.Nodup ∧ l1.Nodup) then (if startS l0 l1 l3 = false then 23 else if rulesS l0 l1 l4 0 l3 = 0 then levelsGo l0.length (fun _ => false) l4 else rulesS l0 l1 l4 0 l3) else 8
end
theorem within_f (a b c : Int) : grammar_within.f a b c = some (decide (b ≤ a ∧ a ≤ c)) := by
 unfold grammar_within.f
 by_cases h : a ≥ b
 ·rw [if_pos h]; simp [show b ≤ a from h]
 ·rw [if_neg h]; simp [show ¬ b ≤ a from h]
theorem next_i {i : Nat} (h : i < 281474976710656) : wrap64 ((i : Int) + 1) = ((i + 1 : Nat) : Int) := by rw [wrap_id (by omega) (by omega)]; push_cast; rfl
theorem idx_counts (l : List Int) (hl : l.length ≤ 140737488355328) : ∀ (rest : List Int) (i : Nat), l.drop i = rest → ∃ k r, slices_IndexFunc_grammar_counts_1.l0 k l (l.length : Int) (i : Int) = some r ∧ decide (r ≥ 0) = rest.any badO := by
 intro rest
 induction rest with
 | nil =>
  intro i hd
  have := drop_nil hd
  refine ⟨1, -1, ?_, by simp⟩
  simp only [slices_IndexFunc_grammar_counts_1.l0]
  rw [if_neg (by omega)]
 | cons x r ih =>
  intro i hd
  obtain ⟨hi, hr, hx⟩ := drop_cons hd
  have e1 : rd l (i : Int) = x := by unfold rd; simpa using hx _
  have e3 : grammar_counts_1.f x = some (badO x) := by
   unfold grammar_counts_1.f badO
   by_cases h : x < 0 <;> simp [h]
  cases hb : badO x with
  | true =>
   refine ⟨1, i, ?_, by simp [hb]⟩
   simp only [slices_IndexFunc_grammar_counts_1.l0]
   rw [if_pos (by omega), if_pos (by omega), if_pos (by omega), e1, e3, hb]
   rfl
  | false =>
   obtain ⟨k, q, hk, hq⟩ := ih (i + 1) hr
   refine ⟨k + 1, q, ?_, by simp [hb, hq]⟩
   simp only [slices_IndexFunc_grammar_counts_1.l0]
   rw [if_pos (by omega), if_pos (by omega), if_pos (by omega), e1, e3, hb]
   simp only [Option.bind_some, Bool.false_eq_true, if_false]
   rw [next_i (by omega), hk]
theorem idx_start (l : List S58) (hl : l.length ≤ 140737488355328) : ∀ (rest : List S58) (i : Nat), l.drop i = rest → ∃ k r, slices_IndexFunc_grammar_start_1.l0 k l (l.length : Int) (i : Int) = some r ∧ decide (r ≥ 0) = rest.any (fun y => decide (y.f0 = 0)) := by
 intro rest
 induction rest with
 | nil =>
  intro i hd
  have := drop_nil hd
  refine ⟨1, -1, ?_, by simp⟩
  simp only [slices_IndexFunc_grammar_start_1.l0]
  rw [if_neg (by omega)]
 | cons x r ih =>
  intro i hd
  obtain ⟨hi, hr, hx⟩ := drop_cons hd
  have e1 : rd_T58 l (i : Int) = x := by unfold rd_T58; simpa using hx _
  have e3 : grammar_start_1.f x.f0 x.f1 x.f2 x.f3 x.f4 = some (decide (x.f0 = 0)) := by
   unfold grammar_start_1.f
   by_cases h : x.f0 = 0 <;> simp [h]
  cases hb : decide (x.f0 = 0) with
  | true =>
   refine ⟨1, i, ?_, by simp [hb]⟩
   simp only [slices_IndexFunc_grammar_start_1.l0]
   rw [if_pos (by omega), if_pos (by omega), if_pos (by omega), e1, e3, hb]
   rfl
  | false =>
   obtain ⟨k, q, hk, hq⟩ := ih (i + 1) hr
   refine ⟨k + 1, q, ?_, by simp [hb, hq]⟩
   simp only [slices_IndexFunc_grammar_start_1.l0]
   rw [if_pos (by omega), if_pos (by omega), if_pos (by omega), e1, e3, hb]
   simp only [Option.bind_some, Bool.false_eq_true, if_false]
   rw [next_i (by omega), hk]
section
variable {l0 l1 : List ByteArray} {l2 : List Int} {l3 : List S58} {l4 : List S61}
theorem there_f (h1 : l1.length ≤ 140737488355328) (s : Int) : grammar_there.f l0 l1 l2 l3 l4 s = some (thereS l0 l1 s) := by
 unfold grammar_there.f thereS
 rw [wrap_id (by omega) (by omega)]
 by_cases h : s < (l0.length : Int) <;> simp [h]
theorem cap_f (h1 : l1.length ≤ 140737488355328) (s : Int) : grammar_rule_1_cap.f s l0 l1 l2 l3 l4 = some (symBad l0 l1 s) := by
 unfold grammar_rule_1_cap.f symBad
 rw [there_f h1]
 simp only [Option.bind_some]
 cases thereS l0 l1 s with
 | false => simp
 | true =>
  by_cases h : s ≥ -1
  ·rw [if_pos rfl, if_pos h]; simp [show -1 ≤ s from h]
  ·rw [if_pos rfl, if_neg h]; simp [show ¬ -1 ≤ s from h]
theorem idx_rule (h1 : l1.length ≤ 140737488355328) (l : List Int) (hl : l.length ≤ 140737488355328) : ∀ (rest : List Int) (i : Nat), l.drop i = rest → ∃ k r, slices_IndexFunc_grammar_rule_1.l0 k l (l.length : Int) (i : Int) l0 l1 l2 l3 l4 = some r ∧ decide (r ≥ 0) = rest.any (symBad l0 l1) := by
 intro rest
 induction rest with
 | nil =>
  intro i hd
  have := drop_nil hd
  refine ⟨1, -1, ?_, by simp⟩
  simp only [slices_IndexFunc_grammar_rule_1.l0]
  rw [if_neg (by omega)]
 | cons x r ih =>
  intro i hd
  obtain ⟨hi, hr, hx⟩ := drop_cons hd
  have e1 : rd l (i : Int) = x := by unfold rd; simpa using hx _
  cases hb : symBad l0 l1 x with
  | true =>
   refine ⟨1, i, ?_, by simp [hb]⟩
   simp only [slices_IndexFunc_grammar_rule_1.l0]
   rw [if_pos (by omega), if_pos (by omega), if_pos (by omega), e1, cap_f h1, hb]
   rfl
  | false =>
   obtain ⟨k, q, hk, hq⟩ := ih (i + 1) hr
   refine ⟨k + 1, q, ?_, by simp [hb, hq]⟩
   simp only [slices_IndexFunc_grammar_rule_1.l0]
   rw [if_pos (by omega), if_pos (by omega), if_pos (by omega), e1, cap_f h1, hb]
   simp only [Option.bind_some, Bool.false_eq_true, if_false]
   rw [next_i (by omega), hk]
theorem counts_l0 (hl2 : l2.length ≤ 140737488355328) (hl3 : l3.length ≤ 1100) (ho3 : ∀ x ∈ l3, ok58 x) : ∀ (rest : List S58) (i : Nat) (n : Nat), l3.drop i = rest → n ≤ i * 17592186044416 → sumF l3 = n + sumF rest →
  ∃ k, grammar_counts.l0 k (n : Int) l3 (l3.length : Int) (i : Int) l0 l1 l2 l3 l4 = some (countsS l0 l1 l2 l3 l4) := by
 intro rest
 induction rest with
 | nil =>
  intro i n hd hn hs
  have := drop_nil hd
  obtain ⟨k, q, hk, hq⟩ := idx_counts l2 hl2 l2 0 rfl
  refine ⟨k + 1, ?_⟩
  simp only [grammar_counts.l0]
  rw [if_neg (by omega)]
  have e : slices_ContainsFunc_grammar_counts_1.f k l2 = some (l2.any badO) := by
   unfold slices_ContainsFunc_grammar_counts_1.f slices_IndexFunc_grammar_counts_1.f
   rw [show (0 : Int) = ((0 : Nat) : Int) from rfl, hk, ← hq]; rfl
  simp only [within_f, e, Option.bind_some, countsS, sumF, Nat.add_zero] at *
  have d1 : decide ((2 : Int) ≤ (l0.length : Int) ∧ (l0.length : Int) ≤ 256) = decide (2 ≤ l0.length ∧ l0.length ≤ 256) := by congr 1; apply propext; omega
  have d2 : decide ((1 : Int) ≤ (l1.length : Int) ∧ (l1.length : Int) ≤ 512) = decide (1 ≤ l1.length ∧ l1.length ≤ 512) := by congr 1; apply propext; omega
  have d3 : decide ((1 : Int) ≤ (l3.length : Int) ∧ (l3.length : Int) ≤ 1024) = decide (1 ≤ l3.length ∧ l3.length ≤ 1024) := by congr 1; apply propext; omega
  have d4 : decide ((n : Int) ≤ 8192) = decide (n ≤ 8192) := by congr 1; apply propext; omega
  rw [d1, d2, d3, d4, hs]
  cases decide (2 ≤ l0.length ∧ l0.length ≤ 256) with
  | false => rfl
  | true =>
  cases decide (1 ≤ l1.length ∧ l1.length ≤ 512) with
  | false => rfl
  | true =>
  simp only [if_true, Bool.true_and]
  by_cases h3 : l2.length = l1.length
  ·rw [if_pos (by omega), decide_eq_true h3]
   cases l2.any badO with
   | true => rfl
   | false =>
   cases decide (1 ≤ l3.length ∧ l3.length ≤ 1024) with
   | false => rfl
   | true =>
   simp only [Bool.false_eq_true, if_false, if_true, Bool.not_false, Bool.true_and]
   by_cases h4 : l4.length ≤ 32
   ·rw [if_pos (by omega), decide_eq_true h4]; rfl
   ·rw [if_neg (by omega), decide_eq_false h4]; rfl
  ·rw [if_neg (by omega), decide_eq_false h3]; rfl
 | cons x r ih =>
  intro i n hd hn hs
  obtain ⟨hi, hr, hx⟩ := drop_cons hd
  have e1 : rd_T58 l3 (i : Int) = x := by unfold rd_T58; simpa using hx _
  have hxo := (ok58_iff x).1 (ho3 x (by rw [← hx ⟨0, [], [], ⟨#[]⟩, 0⟩, List.getD_eq_getElem?_getD, List.getElem?_eq_getElem hi]; exact List.getElem_mem hi))
  have hlen : x.f1.length ≤ 17592186044416 := by have := hxo.2.1.1; unfold reachBytes at this; omega
  obtain ⟨k, hk⟩ := ih (i + 1) (n + x.f1.length) hr (by omega) (by rw [hs]; simp only [sumF]; omega)
  refine ⟨k + 1, ?_⟩
  simp only [grammar_counts.l0]
  rw [if_pos (by omega), if_pos (by omega), if_pos (by omega), e1, next_i (by omega), show wrap64 ((n : Int) + (x.f1.length : Int)) = ((n + x.f1.length : Nat) : Int) from by rw [wrap_id (by omega) (by omega)]; push_cast; rfl, hk]
theorem start_ends (h0 : 1 ≤ l3.length) (h1 : l1.length ≤ 140737488355328) (hl3 : l3.length ≤ 1100) : ∃ k, grammar_start.f k l0 l1 l2 l3 l4 = some (startS l0 l1 l3) := by
 cases l3 with
 | nil => simp at h0
 | cons x r =>
  obtain ⟨k, q, hk, hq⟩ := idx_start r (by simp at hl3; omega) r 0 rfl
  refine ⟨k, ?_⟩
  have e : slices_ContainsFunc_grammar_start_1.f k r = some (r.any (fun y => decide (y.f0 = 0))) := by
   unfold slices_ContainsFunc_grammar_start_1.f slices_IndexFunc_grammar_start_1.f
   rw [show slices_IndexFunc_grammar_start_1.l0 k r (r.length : Int) 0 = some q from hk, ← hq]; rfl
  unfold grammar_start.f
  simp only [startS]
  rw [show rd_T58 (x :: r) 0 = x from rfl, if_pos (by simp only [List.length_cons]; omega)]
  rcases hx1 : x.f1 with _ | ⟨s, _ | ⟨s2, t⟩⟩
  ·by_cases h : x.f0 = 0 <;> simp [h, startOf]
  ·by_cases h : x.f0 = 0
   ·rw [if_pos h, if_pos (by simp), if_pos (by simp)]
    simp only [show rd [s] 0 = s from rfl, startOf, decide_eq_true h, Bool.true_and]
    by_cases hs : s ≥ -1
    ·rw [if_pos hs, decide_eq_false (by omega)]; rfl
    ·rw [if_neg hs, decide_eq_true (by omega), there_f h1]
     simp only [Option.bind_some, Bool.true_and]
     cases thereS l0 l1 s with
     | false => rfl
     | true => rw [if_pos rfl, if_pos (by simp only [List.length_cons]; omega), List.drop_one, List.tail_cons, e]; rfl
   ·rw [if_neg h]; simp [startOf, h]
  ·by_cases h : x.f0 = 0
   ·rw [if_pos h, if_neg (by simp; omega)]; rfl
   ·rw [if_neg h]; rfl
theorem rule_ends (h1 : l1.length ≤ 140737488355328) (x : S58) (hx : ok58 x) (ahead : Int) : ∃ k, grammar_rule.f k l0 l1 l2 l3 l4 x.f0 x.f1 x.f2 x.f3 x.f4 ahead = some (ruleS l0 l1 l4 x ahead) := by
 have hxo := (ok58_iff x).1 hx
 have hlen : x.f1.length ≤ 17592186044416 := by have := hxo.2.1.1; unfold reachBytes at this; omega
 obtain ⟨k, q, hk, hq⟩ := idx_rule (l0 := l0) (l2 := l2) (l3 := l3) (l4 := l4) h1 x.f1 (by omega) x.f1 0 rfl
 have e : ∀ m, k ≤ m → slices_ContainsFunc_grammar_rule_1.f m x.f1 l0 l1 l2 l3 l4 = some (x.f1.any (symBad l0 l1)) := by
  have e0 : slices_ContainsFunc_grammar_rule_1.f k x.f1 l0 l1 l2 l3 l4 = some (x.f1.any (symBad l0 l1)) := by
   unfold slices_ContainsFunc_grammar_rule_1.f slices_IndexFunc_grammar_rule_1.f
   rw [show (0 : Int) = ((0 : Nat) : Int) from rfl, hk, ← hq]; rfl
  exact fun m hm => up (fun k => slices_ContainsFunc_grammar_rule_1.mono _ _ _ _ _ _ k) hm e0
 refine ⟨k + 2, ?_⟩
 unfold grammar_rule.f ruleS
 rw [within_f, wrap_id (by omega) (by omega)]
 simp only [Option.bind_some]
 by_cases h0 : 0 ≤ x.f0 ∧ x.f0 ≤ (l1.length : Int) - 1
 ·rw [decide_eq_true h0, if_pos rfl]
  by_cases ha : x.f0 < ahead
  ·rw [if_pos ha, if_pos (.inr (.inl ha))]; simp only [grammar_rule.j0]; rfl
  ·rw [if_neg ha]
   simp only [grammar_rule.j0]
   by_cases hn : 32 < x.f1.length
   ·rw [decide_eq_true (show (x.f1.length : Int) > 32 by omega), if_pos rfl, if_pos (Or.inr (Or.inr hn))]
   ·rw [decide_eq_false (show ¬ (x.f1.length : Int) > 32 by omega), if_neg (by simp), if_neg (show ¬ (¬ (0 ≤ x.f0 ∧ x.f0 ≤ (l1.length : Int) - 1) ∨ x.f0 < ahead ∨ 32 < x.f1.length) by rintro (h | h | h); exact h h0; exact ha h; exact hn h), e (k + 1) (by omega)]
    simp only [Option.bind_some]
    cases x.f1.any (symBad l0 l1) with
    | true => rfl
    | false =>
     simp only [Bool.false_eq_true, if_false]
     have hj : ∀ b : Bool, grammar_rule.j1 (k + 1) b l0 l1 l2 l3 l4 x.f0 x.f1 x.f2 x.f3 x.f4 = some (if b = true then 25 else if ¬ (0 ≤ x.f4 ∧ x.f4 ≤ (l4.length : Int)) then 24 else 0) := by
      intro b
      simp only [grammar_rule.j1, within_f, Option.bind_some]
      cases b with
      | true => rfl
      | false =>
       simp only [Bool.false_eq_true, if_false]
       by_cases h4 : 0 ≤ x.f4 ∧ x.f4 ≤ (l4.length : Int)
       ·rw [decide_eq_true h4, if_pos rfl, if_neg (fun h => h h4)]
       ·rw [decide_eq_false h4, if_neg (by simp), if_pos h4]
     rw [hj, hj]
     by_cases hf : x.f2.length = 0
     ·simp [hf]
     ·by_cases hg : x.f2.length = x.f1.length
      ·have hf' : x.f1.length ≠ 0 := by omega
       simp [hg]
      ·have hb : ((x.f2.length : Int) != (x.f1.length : Int)) = true := by simp; omega
       rw [if_neg (show ¬ ((x.f2.length : Int) = 0) by omega), hb, if_pos rfl, if_pos (show x.f2.length ≠ 0 ∧ x.f2.length ≠ x.f1.length from ⟨hf, hg⟩)]
 ·rw [decide_eq_false h0, if_neg (by simp), if_pos (.inl h0)]; simp only [grammar_rule.j0]; rfl
theorem rules_ends (h1 : l1.length ≤ 140737488355328) : ∀ (l : List S58) (ahead : Int), (∀ x ∈ l, ok58 x) → ∃ k, rulesGo k l0 l1 l2 l3 l4 ahead l = some (rulesS l0 l1 l4 ahead l) := by
 intro l
 induction l with
 | nil => exact fun _ _ => ⟨0, rfl⟩
 | cons x r ih =>
  intro ahead ho
  obtain ⟨k1, e1⟩ := rule_ends (l0 := l0) (l2 := l2) (l3 := l3) (l4 := l4) h1 x (ho x (List.mem_cons_self ..)) ahead
  obtain ⟨k2, e2⟩ := ih x.f0 (fun y hy => ho y (List.mem_cons_of_mem _ hy))
  refine ⟨k1 + k2, ?_⟩
  simp only [rulesGo, rulesS]
  rw [up (fun k => grammar_rule.mono _ _ _ _ _ _ _ _ _ _ _ k) (Nat.le_add_right k1 k2) e1]
  simp only [Option.bind_some]
  split
  ·exact up (fun k => rulesGo.mono _ _ _ _ _ k _ _) (Nat.le_add_left k2 k1) e2
  ·rfl
theorem twice_f (l : List ByteArray) (hl : l.length * 16 ≤ reachBytes ∧ ∀ y ∈ l, y.size ≤ reachBytes) : grammar_twice.f l = some (!decide l.Nodup) := by
 unfold grammar_twice.f
 rw [if_pos]
 simp only [grammar_twice.ok, Bool.and_eq_true, List.all_eq_true, decide_eq_true_eq]
 have := hl.1
 unfold reachBytes at this
 refine ⟨fun s hs => ?_, by omega⟩
 have := hl.2 s hs
 unfold reachBytes at this
 exact this
theorem right_ends (hx : ok40 ⟨l0, l1, l2, l3, l4⟩) (hl3 : l3.length ≤ 1100) (hl4 : ∀ x ∈ l4, x.f1.length ≤ 1000000) : ∃ k, grammar_Right.f k l0 l1 l2 l3 l4 = some (rightS l0 l1 l2 l3 l4) := by
 have h := (ok40_iff _).1 hx
 simp only at h
 obtain ⟨g0, g1, g2, g3, g4⟩ := h
 have b1 : l1.length ≤ 140737488355328 := by have := g1.1; unfold reachBytes at this; omega
 have b2 : l2.length ≤ 140737488355328 := by have := g2.1; unfold reachBytes at this; omega
 obtain ⟨k1, e1⟩ := counts_l0 (l0 := l0) (l1 := l1) (l2 := l2) (l4 := l4) b2 hl3 g3.2 l3 0 0 rfl (by omega) (by omega)
 have e1' : grammar_counts.f k1 l0 l1 l2 l3 l4 = some (countsS l0 l1 l2 l3 l4) := by unfold grammar_counts.f; exact e1
 by_cases hc : countsS l0 l1 l2 l3 l4 = true
 ·have hc' := hc
  simp only [countsS, Bool.and_eq_true, decide_eq_true_eq] at hc'
  obtain ⟨c0, c1, c2, c3, c4, c5, c6⟩ := hc'
  obtain ⟨k2, e2⟩ := start_ends (l0 := l0) (l1 := l1) (l2 := l2) (l4 := l4) c4.1 b1 hl3
  obtain ⟨k3, e3⟩ := rules_ends (l0 := l0) (l2 := l2) (l3 := l3) (l4 := l4) b1 l3 0 g3.2
  refine ⟨k1 + k2 + k3, ?_⟩
  unfold grammar_Right.f rightS
  rw [up (fun k => grammar_counts.mono _ _ _ _ _ k) (by omega : k1 ≤ k1 + k2 + k3) e1', hc]
  simp only [Option.bind_some, if_true, Bool.true_eq_false, if_false]
  rw [twice_f l0 g0, twice_f l1 g1]
  simp only [Option.bind_some]
  by_cases n0 : l0.Nodup
  ·rw [decide_eq_true n0]
   simp only [Bool.not_true, Bool.false_eq_true, if_false]
   by_cases n1 : l1.Nodup
   ·rw [decide_eq_true n1, if_pos (show l0.Nodup ∧ l1.Nodup from ⟨n0, n1⟩)]
    simp only [Bool.not_true, Bool.false_eq_true, if_false]
    rw [up (fun k => grammar_start.mono _ _ _ _ _ k) (by omega : k2 ≤ k1 + k2 + k3) e2]
    simp only [Option.bind_some]
    cases startS l0 l1 l3 with
    | false => rfl
    | true =>
     simp only [if_true, Bool.true_eq_false, if_false]
     rw [up (fun k => rulesGo.mono _ _ _ _ _ k _ _) (by omega : k3 ≤ k1 + k2 + k3) e3]
     simp only [Option.bind_some]
     split
     ·rw [if_pos]
      simp only [grammar_Right.ok, Bool.and_eq_true, decide_eq_true_eq, List.all_eq_true]
      refine ⟨⟨by omega, by omega⟩, fun x hx => ⟨hl4 x hx, fun t ht => ?_⟩⟩
      exact wf_i64 (((ok61_iff x).1 (g4.2 x hx)).2.2 t ht)
     ·rfl
   ·rw [decide_eq_false n1, if_neg (fun h : l0.Nodup ∧ l1.Nodup => n1 h.2)]
    simp only [Bool.not_false, if_true]
  ·rw [decide_eq_false n0, if_neg (fun h : l0.Nodup ∧ l1.Nodup => n0 h.1)]
   simp only [Bool.not_false, if_true]
 ·have hc := Bool.eq_false_iff.mpr hc
  refine ⟨k1, ?_⟩
  unfold grammar_Right.f rightS
  rw [e1', hc]
  rfl
end
end
section
open Go.Proofs.YtphmgaijkdflnaaDoorW.PrintWords Go.Proofs.YtphmgaijkdflnaaDoorW.PrintLast Go.Proofs.YtphmgaijkdflnaaDoorW.PrintMore
attribute [local go_sem] max2_int min2_int max_two min_two max_three min_three max_four min_four
mutual
def arboristref15_counts.j0 : Nat → Bool → List ByteArray → List ByteArray → List Int → List (S58) → List (S61) → Option (Bool)
 | 0, _, _, _, _, _, _ => none
 | k + 1, x36, x208000, x208001, x208002, x208003, x208004 => if x36 = true then (some true) else (arboristref15_counts.l0 k 0 x208000 x208001 x208002 x208003 x208004)
def arboristref15_counts.l0 : Nat → Int → List ByteArray → List ByteArray → List Int → List (S58) → List (S61) → Option (Bool)
 | 0, _, _, _, _, _, _ => none
 | k + 1, x3, x208000, x208001, x208002, x208003, x208004 => if x3 < (x208002.length : Int) then (if 0 ≤ x3 then (if (rd x208002 x3) < 0 then (some true) else (if (rd x208002 x3) > 5 then (some true) else (arboristref15_counts.l0 k (wrap64 (x3 + 1)) x208000 x208001 x208002 x208003 x208004))) else (none)) else (arboristref15_counts.l1 k 0 0 x208000 x208001 x208002 x208003 x208004)
def arboristref15_counts.l1 : Nat → Int → Int → List ByteArray → List ByteArray → List Int → List (S58) → List (S61) → Option (Bool)
 | 0, _, _, _, _, _, _, _ => none
 | k + 1, x4, x5, x208000, x208001, x208002, x208003, x208004 => if x5 < (x208003.length : Int) then (if 0 ≤ x5 then (arboristref15_counts.l1 k (wrap64 (x4 + (((rd_T58 x208003 x5).f1).length : Int))) (wrap64 (x5 + 1)) x208000 x208001 x208002 x208003 x208004) else (none)) else (if (x208003.length : Int) < 1 then (some true) else (if (x208003.length : Int) > 1024 then (some true) else (if (x208004.length : Int) > 32 then (some true) else (some (decide (x4 > 8192))))))
end
def arboristref15_counts.f (k : Nat) (l0_0 : List ByteArray) (l0_1 : List ByteArray) (l0_2 : List Int) (l0_3 : List (S58)) (l0_4 : List (S61)) : Option (Bool) := if (l0_0.length : Int) < 2 then (arboristref15_counts.j0 k true l0_0 l0_1 l0_2 l0_3 l0_4) else (if (l0_0.length : Int) > 256 then (arboristref15_counts.j0 k true l0_0 l0_1 l0_2 l0_3 l0_4) else (if (l0_1.length : Int) < 1 then (arboristref15_counts.j0 k true l0_0 l0_1 l0_2 l0_3 l0_4) else (if (l0_1.length : Int) > 512 then (arboristref15_counts.j0 k true l0_0 l0_1 l0_2 l0_3 l0_4) else (arboristref15_counts.j0 k ((l0_2.length : Int) != (l0_1.length : Int)) l0_0 l0_1 l0_2 l0_3 l0_4))))
theorem arboristref15_counts.mono_l : ∀ k, (∀ y0 y1 y2 y3 y4 y5, LeO (arboristref15_counts.j0 k y0 y1 y2 y3 y4 y5) (arboristref15_counts.j0 (k + 1) y0 y1 y2 y3 y4 y5)) ∧ (∀ y0 y1 y2 y3 y4 y5, LeO (arboristref15_counts.l0 k y0 y1 y2 y3 y4 y5) (arboristref15_counts.l0 (k + 1) y0 y1 y2 y3 y4 y5)) ∧ (∀ y0 y1 y2 y3 y4 y5 y6, LeO (arboristref15_counts.l1 k y0 y1 y2 y3 y4 y5 y6) (arboristref15_counts.l1 (k + 1) y0 y1 y2 y3 y4 y5 y6))
 | 0 => ⟨fun _ _ _ _ _ _ r h => by simp [arboristref15_counts.j0] at h, fun _ _ _ _ _ _ r h => by simp [arboristref15_counts.l0] at h, fun _ _ _ _ _ _ _ r h => by simp [arboristref15_counts.l1] at h⟩
 | k + 1 => by
  obtain ⟨ih0, ih1, ih2⟩ := arboristref15_counts.mono_l k; refine ⟨?_, ?_, ?_⟩
  ·intro y0 y1 y2 y3 y4 y5
   (unfold arboristref15_counts.j0); exact qL
  ·intro y0 y1 y2 y3 y4 y5
   (unfold arboristref15_counts.l0); exact qL
  ·intro y0 y1 y2 y3 y4 y5 y6
   (unfold arboristref15_counts.l1); exact qL
theorem arboristref15_counts.mono : ∀ a0 a1 a2 a3 a4 k, LeO (arboristref15_counts.f k a0 a1 a2 a3 a4) (arboristref15_counts.f (k + 1) a0 a1 a2 a3 a4) := by
 (intro a0 a1 a2 a3 a4 k); obtain ⟨ih0, ih1, ih2⟩ := arboristref15_counts.mono_l k; (unfold arboristref15_counts.f); exact qL
theorem arboristref15_counts.calls (k : Nat) (A0_0 : Option Addr) (c0_0 : Nat) (l0_0 : List ByteArray) (A0_1 : Option Addr) (c0_1 : Nat) (l0_1 : List ByteArray) (A0_2 : Option Addr) (c0_2 : Nat) (l0_2 : List Int) (A0_3 : Option Addr) (c0_3 : Nat) (l0_3 : List (S58)) (A0_4 : Option Addr) (c0_4 : Nat) (l0_4 : List (S61)) (r : Bool) (w : World) (hr0_0 : Kd.C Kd.string w A0_0 l0_0.length l0_0) (hc0_0 : l0_0.length ≤ c0_0) (hr0_1 : Kd.C Kd.string w A0_1 l0_1.length l0_1) (hc0_1 : l0_1.length ≤ c0_1) (hr0_2 : Kd.C (Kd.int .i64) w A0_2 l0_2.length l0_2) (hc0_2 : l0_2.length ≤ c0_2) (hr0_3 : Kd.C k58 w A0_3 l0_3.length l0_3) (hc0_3 : l0_3.length ≤ c0_3) (hr0_4 : Kd.C k61 w A0_4 l0_4.length l0_4) (hc0_4 : l0_4.length ≤ c0_4) (h : arboristref15_counts.f k l0_0 l0_1 l0_2 l0_3 l0_4 = some r) :
  Calls Tryd.prog 57 #[.agg #[.slice A0_0 l0_0.length c0_0, .slice A0_1 l0_1.length c0_1, .slice A0_2 l0_2.length c0_2, .slice A0_3 l0_3.length c0_3, .slice A0_4 l0_4.length c0_4]] w fun e w' => e = .returned (.bool r) ∧ Below w.heap.size w w' := by
 have hu40 := Tryd.underlying40; have HR0_0 := qM hr0_0; have HC0_0 := qM hc0_0; clear hr0_0 hc0_0; have HR0_1 := qM hr0_1; have HC0_1 := qM hc0_1; clear hr0_1 hc0_1; have HR0_2 := qM hr0_2; have HC0_2 := qM hc0_2; clear hr0_2 hc0_2; have HR0_3 := qM hr0_3; have HC0_3 := qM hc0_3; clear hr0_3 hc0_3; have HR0_4 := qM hr0_4; have HC0_4 := qM hc0_4; clear hr0_4 hc0_4; have HB := qM (Below.refl w.heap.size w); have H : (if (l0_0.length : Int) < 2 then (arboristref15_counts.j0 k true l0_0 l0_1 l0_2 l0_3 l0_4) else (if (l0_0.length : Int) > 256 then (arboristref15_counts.j0 k true l0_0 l0_1 l0_2 l0_3 l0_4) else (if (l0_1.length : Int) < 1 then (arboristref15_counts.j0 k true l0_0 l0_1 l0_2 l0_3 l0_4) else (if (l0_1.length : Int) > 512 then (arboristref15_counts.j0 k true l0_0 l0_1 l0_2 l0_3 l0_4) else (arboristref15_counts.j0 k ((l0_2.length : Int) != (l0_1.length : Int)) l0_0 l0_1 l0_2 l0_3 l0_4))))) = some r := h; clear h; have HC2 := qM H; clear H; (go_enter Tryd.func57, Tryd.ntmps57)
 go_upto_region 1 with (first | ((with_reducible refine gate_dst (N := 1) rfl ?_); (try (refine gate_guard (by rfl) ?_; dsimp only)); refine box_event ?hg (N := 1) ?hd (cs := #[.slice A0_0 l0_0.length c0_0, .slice A0_1 l0_1.length c0_1, .slice A0_2 l0_2.length c0_2, .slice A0_3 l0_3.length c0_3, .slice A0_4 l0_4.length c0_4]) (t := 40) ?hr ?_; (case hd | hg => rfl); (case hr => first | (go_simp; done) | (go_simp; rfl)); intro gb207 hg w3 hbox hb; have BK207 := qM (hbox); have GW207 := qM (qG hg); have GE207 := GW207; replace HB := qM (qP qF hb); clear hb hbox hg))
 (try simp only [Act.put, List.setIfInBounds_toArray, List.set_cons_zero, List.set_cons_succ]); (go_cut [36] (fun v36 wc => ∃ (kq : Nat) (x36_1 : Bool), v36 = .bool x36_1 ∧ Aside0 (arboristref15_counts.j0 kq x36_1 l0_0 l0_1 l0_2 l0_3 l0_4 = some r) ∧ Aside0 (kq ≤ k) ∧ Aside0 (wc.heap[gb207]? = some (.cells #[(.slice A0_0 l0_0.length c0_0), (.slice A0_1 l0_1.length c0_1), (.slice A0_2 l0_2.length c0_2), (.slice A0_3 l0_3.length c0_3), (.slice A0_4 l0_4.length c0_4)] 40 (0, 0))) ∧ Aside0 (Below w.heap.size w wc)))
 case first =>
  have H := HC2.out; clear HC2; have hz5 := bx5 BK207.out; (refine iteR ?_ ?_ H <;> clear H <;> intro c4 H)
  ·have c4b0 := decide_eq_true c4
   have c4b1 : decide (l0_0.length < 2) = true := decide_eq_true (by omega); clear c4; (first | rw [c4b0] | (simp only [i64_w, i32_w]; rw [c4b0]) | skip); have H' := qM H; clear H; go_wp2; go_meet
   case rel => exact ⟨_, (true), qV, H', ⟨by first | omega | exact Nat.le_refl _⟩, ⟨qK⟩, ⟨qF⟩⟩
  ·have c4b0 := decide_eq_false c4
   have c4b1 : decide (l0_0.length < 2) = false := decide_eq_false (by omega); clear c4; (first | rw [c4b0] | (simp only [i64_w, i32_w]; rw [c4b0]) | skip); (refine iteR ?_ ?_ H <;> clear H <;> intro c6 H)
   ·have c6b0 : decide (256 < (l0_0.length : Int)) = true := decide_eq_true c6
    have c6b1 : decide (256 < l0_0.length) = true := decide_eq_true (by omega); clear c6; have H' := qM H; clear H; go_wp2; go_meet
    case rel => exact ⟨_, (true), qV, H', ⟨by first | omega | exact Nat.le_refl _⟩, ⟨qK⟩, ⟨qF⟩⟩
   ·have c6b0 : decide (256 < (l0_0.length : Int)) = false := decide_eq_false c6
    have c6b1 : decide (256 < l0_0.length) = false := decide_eq_false (by omega); clear c6; (refine iteR ?_ ?_ H <;> clear H <;> intro c8 H)
    ·have c8b0 := decide_eq_true c8
     have c8b1 : decide (l0_1.length < 1) = true := decide_eq_true (by omega); clear c8; have H' := qM H; clear H; go_wp2; go_meet
     case rel => exact ⟨_, (true), qV, H', ⟨by first | omega | exact Nat.le_refl _⟩, ⟨qK⟩, ⟨qF⟩⟩
    ·have c8b0 := decide_eq_false c8
     have c8b1 : decide (l0_1.length < 1) = false := decide_eq_false (by omega); clear c8; (refine iteR ?_ ?_ H <;> clear H <;> intro c10 H)
     ·have c10b0 : decide (512 < (l0_1.length : Int)) = true := decide_eq_true c10
      have c10b1 : decide (512 < l0_1.length) = true := decide_eq_true (by omega); clear c10; have H' := qM H; clear H; go_wp2; go_meet
      case rel => exact ⟨_, (true), qV, H', ⟨by first | omega | exact Nat.le_refl _⟩, ⟨qK⟩, ⟨qF⟩⟩
     ·have c10b0 : decide (512 < (l0_1.length : Int)) = false := decide_eq_false c10
      have c10b1 : decide (512 < l0_1.length) = false := decide_eq_false (by omega); clear c10; have H' := qM H; clear H; go_wp2; go_meet
      case rel => exact ⟨_, (((l0_2.length : Int) != (l0_1.length : Int))), qV, H', ⟨by first | omega | exact Nat.le_refl _⟩, ⟨qK⟩, ⟨qF⟩⟩
 case rest =>
  clear HC2; (try clear c1); (try clear p2); (try clear c4); (try clear c4b0); (try clear c4b1); (try clear c5); (try clear c6); (try clear c6b0); (try clear c6b1); (try clear c8); (try clear c8b0); (try clear c8b1); (try clear c10); (try clear c10b0); (try clear c10b1); (try clear hz5); obtain ⟨kq, x36_1, rfl, HA, HJ1, BK207, HB⟩ := hcut
  cases kq with
  | zero => exact absurd HA.out (by simp [arboristref15_counts.j0])
  | succ kj1 =>
   have H := HA.out; clear HA; (simp only [arboristref15_counts.j0] at H); (refine iteR ?_ ?_ H <;> clear H <;> intro c13 H)
   ·subst c13
    obtain rfl := Option.some.inj H; go_wp2; (go_ret); exact ⟨qE, qF⟩
   ·replace c13 := Bool.eq_false_iff.mpr c13
    subst c13; have H' := qM H; clear H; go_wp2; (go_loopg [3] kj1 (fun kq v3 w' => ∃ (x3_2 : Int), v3 = .int .i64 x3_2 ∧ Aside0 (arboristref15_counts.l0 kq x3_2 l0_0 l0_1 l0_2 l0_3 l0_4 = some r) ∧ Aside0 (kq ≤ kj1) ∧ Aside0 (w'.heap[gb207]? = some (.cells #[(.slice A0_0 l0_0.length c0_0), (.slice A0_1 l0_1.length c0_1), (.slice A0_2 l0_2.length c0_2), (.slice A0_3 l0_3.length c0_3), (.slice A0_4 l0_4.length c0_4)] 40 (0, 0))) ∧ Aside0 (Below w.heap.size w w')))
    case atStart => exact ⟨(0), qV, H', ⟨Nat.le_refl _⟩, ⟨qK⟩, ⟨qF⟩⟩
    case round =>
     (clear H'); (try clear c1); (try clear p2); (try clear c4); (try clear c4b0); (try clear c4b1); (try clear c5); (try clear c6); (try clear c6b0); (try clear c6b1); (try clear c8); (try clear c8b0); (try clear c8b1); (try clear c10); (try clear c10b0); (try clear c10b1); (try clear c13); (try clear hz5); (try clear p2); obtain ⟨x3_2, rfl, HA, HK2, BK207, HB⟩ := hrel
     cases gk with
     | zero => exact absurd HA.out (by simp [arboristref15_counts.l0])
     | succ k2 =>
      have H := HA.out; clear HA; (simp only [arboristref15_counts.l0] at H); have hz17 := bx5 BK207.out; (refine iteD ?_ ?_ H <;> clear H <;> intro c14b0 H)
      ·refine iteN ?_ H
       clear H; (intro c15b0 H); have p208 : 0 ≤ (x3_2 : Int) := qo qX; have q208 : x3_2 < (l0_2.length : Int) := qo qX; obtain ⟨ad208, e208, hx208_0⟩ := Kd.at_int HR0_2.out x3_2 p208 q208
       cases e208
       replace hx208_0 := qv HB.out hx208_0; replace p208 := eq_true p208; replace q208 := eq_true q208; (refine iteD ?_ ?_ H <;> clear H <;> intro c16b0 H)
       ·obtain rfl := Option.some.inj H
        go_wp2; (go_ret); exact ⟨qE, qF⟩
       ·have p209 : 0 ≤ (x3_2 : Int) := qo qX
        have q209 : x3_2 < (l0_2.length : Int) := qo qX; obtain ⟨ad209, e209, hx209_0⟩ := Kd.at_int HR0_2.out x3_2 p209 q209; obtain rfl : ad208 = ad209 := (by injection e209); replace hx209_0 := qv HB.out hx209_0; replace p209 := eq_true p209; replace q209 := eq_true q209; (refine iteR ?_ ?_ H <;> clear H <;> intro c18 H)
        ·have c18b0 : decide (5 < (rd l0_2 x3_2)) = true := decide_eq_true c18
         clear c18; obtain rfl := Option.some.inj H; go_wp2; (go_ret); exact ⟨qE, qF⟩
        ·have c18b0 : decide (5 < (rd l0_2 x3_2)) = false := decide_eq_false c18
         clear c18; have H' := qM H; clear H; go_wp2; (go_roundg k2)
         case measure => have := HJ1.out; have := HK2.out; omega
         case rel => exact ⟨(wrap64 (x3_2 + 1)), qV, H', ⟨by have := HJ1.out; have := HK2.out; omega⟩, ⟨qK⟩, ⟨qF⟩⟩
      ·have H' := qM H
       clear H; go_wp2; (go_loopg [4, 5] k2 (fun kq v4 v5 w' => ∃ (x4_3 : Int) (x5_3 : Int), v4 = .int .i64 x4_3 ∧ v5 = .int .i64 x5_3 ∧ Aside0 (arboristref15_counts.l1 kq x4_3 x5_3 l0_0 l0_1 l0_2 l0_3 l0_4 = some r) ∧ Aside0 (kq ≤ k2) ∧ Aside0 (w'.heap[gb207]? = some (.cells #[(.slice A0_0 l0_0.length c0_0), (.slice A0_1 l0_1.length c0_1), (.slice A0_2 l0_2.length c0_2), (.slice A0_3 l0_3.length c0_3), (.slice A0_4 l0_4.length c0_4)] 40 (0, 0))) ∧ Aside0 (Below w.heap.size w w')))
       case atStart => exact ⟨(0), (0), qV, qV, H', ⟨Nat.le_refl _⟩, ⟨qK⟩, ⟨qF⟩⟩
       case round =>
        (clear H'); (try clear c1); (try clear p2); (try clear q2); (try clear hx2); (try clear c4); (try clear c4b0); (try clear c4b1); (try clear c5); (try clear c6); (try clear c6b0); (try clear c6b1); (try clear p6); (try clear c8); (try clear c8b0); (try clear c8b1); (try clear c10); (try clear c10b0); (try clear c10b1); (try clear c13); (try clear c14); (try clear c14b0); (try clear c15); (try clear c15b0); (try clear c16); (try clear c16b0); (try clear c18); (try clear c18b0); (try clear p20); (try clear q20); (try clear hx20); (try clear hz17); (try clear hz17); (try clear hz5); (try clear hx208_0); (try clear hx209_0); (try clear p2); (try clear p208); (try clear p209); (try clear q208); (try clear q209); obtain ⟨x4_3, x5_3, rfl, rfl, HA, HK3, BK207, HB⟩ := hrel
        cases gk with
        | zero => exact absurd HA.out (by simp [arboristref15_counts.l1])
        | succ k3 =>
         have H := HA.out; clear HA; (simp only [arboristref15_counts.l1] at H); have hz24 := bx5 BK207.out; (refine iteD ?_ ?_ H <;> clear H <;> intro c22b0 H)
         ·refine iteN ?_ H
          clear H; (intro c23b0 H); have H' := qM H; clear H; have p210 : 0 ≤ (x5_3 : Int) := qo qX; have q210 : x5_3 < (l0_3.length : Int) := qo qX; obtain ⟨ad210, A210_1, c210_1, A210_2, c210_2, e210, hx210_0, hx210_1, hx210_2, hx210_3, hx210_4, hl210_1, hi210_1, hl210_2, hi210_2⟩ := at_T58 HR0_3.out x5_3 p210 q210
          cases e210
          replace hx210_0 := qv HB.out hx210_0; replace hx210_1 := qv HB.out hx210_1; replace hx210_2 := qv HB.out hx210_2; replace hx210_3 := qv HB.out hx210_3; replace hx210_4 := qv HB.out hx210_4; have HR210_1 := qM hi210_1; have HC210_1 := qM hl210_1; clear hi210_1 hl210_1; have HR210_2 := qM hi210_2; have HC210_2 := qM hl210_2; clear hi210_2 hl210_2; replace p210 := eq_true p210; replace q210 := eq_true q210; go_wp2; (go_roundg k3)
          case measure => have := HJ1.out; have := HK2.out; have := HK3.out; omega
          case rel => exact ⟨(wrap64 (x4_3 + (((rd_T58 l0_3 x5_3).f1).length : Int))), (wrap64 (x5_3 + 1)), qV, qV, H', ⟨by have := HJ1.out; have := HK2.out; have := HK3.out; omega⟩, ⟨qK⟩, ⟨qF⟩⟩
         ·refine iteR ?_ ?_ H <;> clear H <;> intro c25 H
          ·have c25b0 := decide_eq_true c25
           have c25b1 : decide (l0_3.length < 1) = true := decide_eq_true (by omega); clear c25; obtain rfl := Option.some.inj H; go_wp2; (go_ret); exact ⟨qE, qF⟩
          ·have c25b0 := decide_eq_false c25
           have c25b1 : decide (l0_3.length < 1) = false := decide_eq_false (by omega); clear c25; (refine iteR ?_ ?_ H <;> clear H <;> intro c27 H)
           ·have c27b0 : decide (1024 < (l0_3.length : Int)) = true := decide_eq_true c27
            have c27b1 : decide (1024 < l0_3.length) = true := decide_eq_true (by omega); clear c27; obtain rfl := Option.some.inj H; go_wp2; (go_ret); exact ⟨qE, qF⟩
           ·have c27b0 : decide (1024 < (l0_3.length : Int)) = false := decide_eq_false c27
            have c27b1 : decide (1024 < l0_3.length) = false := decide_eq_false (by omega); clear c27; (refine iteR ?_ ?_ H <;> clear H <;> intro c29 H)
            ·have c29b0 : decide (32 < (l0_4.length : Int)) = true := decide_eq_true c29
             have c29b1 : decide (32 < l0_4.length) = true := decide_eq_true (by omega); clear c29; obtain rfl := Option.some.inj H; go_wp2; (go_ret); exact ⟨qE, qF⟩
            ·have c29b0 : decide (32 < (l0_4.length : Int)) = false := decide_eq_false c29
             have c29b1 : decide (32 < l0_4.length) = false := decide_eq_false (by omega); clear c29; obtain rfl := Option.some.inj H; go_wp2; (go_ret); exact ⟨qE, qF⟩
mutual
def arboristref15_twice.l0 : Nat → List ByteArray → Int → Option (Bool)
 | 0, _, _ => none
 | k + 1, x0, x3 => if x3 < (x0.length : Int) then (arboristref15_twice.l1 k x0 x3 0) else (some false)
def arboristref15_twice.l1 : Nat → List ByteArray → Int → Int → Option (Bool)
 | 0, _, _, _ => none
 | k + 1, x0, x3, x4 => if x4 < x3 then (if 0 ≤ x4 then (if x4 < (x0.length : Int) then (if 0 ≤ x3 then (if x3 < (x0.length : Int) then (if (rdOf ByteArray.empty x0 x4).toList = (rdOf ByteArray.empty x0 x3).toList then (some true) else (arboristref15_twice.l1 k x0 x3 (wrap64 (x4 + 1)))) else (none)) else (none)) else (none)) else (none)) else (arboristref15_twice.l0 k x0 (wrap64 (x3 + 1)))
end
def arboristref15_twice.f (k : Nat) (l0 : List ByteArray) : Option (Bool) := arboristref15_twice.l0 k l0 0
theorem arboristref15_twice.mono_l : ∀ k, (∀ y0 y1, LeO (arboristref15_twice.l0 k y0 y1) (arboristref15_twice.l0 (k + 1) y0 y1)) ∧ (∀ y0 y1 y2, LeO (arboristref15_twice.l1 k y0 y1 y2) (arboristref15_twice.l1 (k + 1) y0 y1 y2))
 | 0 => ⟨fun _ _ r h => by simp [arboristref15_twice.l0] at h, fun _ _ _ r h => by simp [arboristref15_twice.l1] at h⟩
 | k + 1 => by
  obtain ⟨ih0, ih1⟩ := arboristref15_twice.mono_l k; refine ⟨?_, ?_⟩
  ·intro y0 y1
   (unfold arboristref15_twice.l0); exact qL
  ·intro y0 y1 y2
   (unfold arboristref15_twice.l1); exact qL
theorem arboristref15_twice.mono : ∀ a0 k, LeO (arboristref15_twice.f k a0) (arboristref15_twice.f (k + 1) a0) := by
 (intro a0 k); obtain ⟨ih0, ih1⟩ := arboristref15_twice.mono_l k; (unfold arboristref15_twice.f); exact qL
theorem arboristref15_twice.calls (k : Nat) (A0 : Option Addr) (c0 : Nat) (l0 : List ByteArray) (r : Bool) (w : World) (hr0 : Kd.C Kd.string w A0 l0.length l0) (hc0 : l0.length ≤ c0) (h : arboristref15_twice.f k l0 = some r) :
  Calls Tryd.prog 58 #[.slice A0 l0.length c0] w fun e w' => e = .returned (.bool r) ∧ Drawn0 w w' := by
 have HR0 := qM hr0; have HC0 := qM hc0; clear hr0 hc0; have H : (arboristref15_twice.l0 k l0 0) = some r := h; clear h; have H' := qM H; clear H; (go_enter Tryd.func58, Tryd.ntmps58); go_wp2; (repeat (go_quiet (fail); try go_wp2)); (go_loopg [3] k (fun kq v3 w' => ∃ (x3_1 : Int), v3 = .int .i64 x3_1 ∧ Aside0 (arboristref15_twice.l0 kq l0 x3_1 = some r) ∧ Aside0 (kq ≤ k) ∧ Drawn0 w w'))
 case atStart => exact ⟨(0), qV, H', ⟨Nat.le_refl _⟩, by repeat (first | exact Drawn0.refl _ | apply Drawn0.step)⟩
 case round =>
  (clear H'); obtain ⟨x3_1, rfl, HA, HK1, ⟨m1, rfl⟩⟩ := hrel
  cases gk with
  | zero => exact absurd HA.out (by simp [arboristref15_twice.l0])
  | succ k1 =>
   have H := HA.out; clear HA; (simp only [arboristref15_twice.l0] at H); (refine iteD ?_ ?_ H <;> clear H <;> intro c2b0 H)
   ·have H' := qM H
    clear H; go_wp2; (repeat (go_quiet (fail); try go_wp2)); (go_loopg [4] k1 (fun kq v4 w' => ∃ (x4_2 : Int), v4 = .int .i64 x4_2 ∧ Aside0 (arboristref15_twice.l1 kq l0 x3_1 x4_2 = some r) ∧ Aside0 (kq ≤ k1) ∧ Drawn0 w w'))
    case atStart => exact ⟨(0), qV, H', ⟨Nat.le_refl _⟩, by repeat (first | exact Drawn0.refl _ | apply Drawn0.step)⟩
    case round =>
     (clear H'); (try clear c2); (try clear c2b0); (try clear p2); obtain ⟨x4_2, rfl, HA, HK2, ⟨m2, rfl⟩⟩ := hrel
     cases gk with
     | zero => exact absurd HA.out (by simp [arboristref15_twice.l1])
     | succ k2 =>
      have H := HA.out; clear HA; (simp only [arboristref15_twice.l1] at H); (refine iteD ?_ ?_ H <;> clear H <;> intro c3b0 H)
      ·refine iteN ?_ H
       clear H; (intro c4b0 H); refine iteN ?_ H; clear H; (intro c5b0 H); refine iteN ?_ H; clear H; (intro c6b0 H); refine iteN ?_ H; clear H; (intro c7b0 H); have p211 : 0 ≤ (x4_2 : Int) := qo qX; have q211 : x4_2 < (l0.length : Int) := qo qX; obtain ⟨ad211, e211, hx211_0⟩ := Kd.at_string HR0.out x4_2 p211 q211
       cases e211
       replace p211 := eq_true p211; replace q211 := eq_true q211; have p212 : 0 ≤ (x3_1 : Int) := qo qX; have q212 : x3_1 < (l0.length : Int) := qo qX; obtain ⟨ad212, e212, hx212_0⟩ := Kd.at_string HR0.out x3_1 p212 q212; obtain rfl : ad211 = ad212 := (by injection e212); replace p212 := eq_true p212; replace q212 := eq_true q212; (refine iteE ?_ ?_ H <;> clear H <;> intro c8b0 c8b1 H)
       ·obtain rfl := Option.some.inj H
        go_wp2; (repeat (go_quiet (fail); try go_wp2)); (go_ret); exact ⟨qV, by repeat (first | exact Drawn0.refl _ | apply Drawn0.step)⟩
       ·intro c8
        have H' := qM H; clear H; go_wp2; (repeat (go_quiet (fail); try go_wp2)); (go_roundg k2)
        case measure => have := HK1.out; have := HK2.out; omega
        case rel => exact ⟨(wrap64 (x4_2 + 1)), qV, H', ⟨by have := HK1.out; have := HK2.out; omega⟩, by repeat (first | exact Drawn0.refl _ | apply Drawn0.step)⟩
      ·have H' := qM H
       clear H; go_wp2; (repeat (go_quiet (fail); try go_wp2)); (go_roundg k2)
       case measure => have := HK1.out; have := HK2.out; omega
       case rel => exact ⟨(wrap64 (x3_1 + 1)), qV, H', ⟨by have := HK1.out; have := HK2.out; omega⟩, by repeat (first | exact Drawn0.refl _ | apply Drawn0.step)⟩
   ·obtain rfl := Option.some.inj H
    go_wp2; (repeat (go_quiet (fail); try go_wp2)); (go_ret); exact ⟨qV, by repeat (first | exact Drawn0.refl _ | apply Drawn0.step)⟩
def arboristref15_Is.f (l0_0 : List ByteArray) (l0_1 : List ByteArray) (l0_2 : List Int) (l0_3 : List (S58)) (l0_4 : List (S61)) (a1 : Int) : Option (Bool) := if a1 ≥ 0 then (if a1 < (l0_0.length : Int) then (some true) else (if a1 < 0 then (some (decide (a1 ≥ (wrap64 (-(l0_1.length : Int)))))) else (some false))) else (if a1 < 0 then (some (decide (a1 ≥ (wrap64 (-(l0_1.length : Int)))))) else (some false))
theorem arboristref15_Is.calls (A0_0 : Option Addr) (c0_0 : Nat) (l0_0 : List ByteArray) (A0_1 : Option Addr) (c0_1 : Nat) (l0_1 : List ByteArray) (A0_2 : Option Addr) (c0_2 : Nat) (l0_2 : List Int) (A0_3 : Option Addr) (c0_3 : Nat) (l0_3 : List (S58)) (A0_4 : Option Addr) (c0_4 : Nat) (l0_4 : List (S61)) (a1 : Int) (r : Bool) (w : World) (hr0_0 : Kd.C Kd.string w A0_0 l0_0.length l0_0) (hc0_0 : l0_0.length ≤ c0_0) (hr0_1 : Kd.C Kd.string w A0_1 l0_1.length l0_1) (hc0_1 : l0_1.length ≤ c0_1) (hr0_2 : Kd.C (Kd.int .i64) w A0_2 l0_2.length l0_2) (hc0_2 : l0_2.length ≤ c0_2) (hr0_3 : Kd.C k58 w A0_3 l0_3.length l0_3) (hc0_3 : l0_3.length ≤ c0_3) (hr0_4 : Kd.C k61 w A0_4 l0_4.length l0_4) (hc0_4 : l0_4.length ≤ c0_4) (h : arboristref15_Is.f l0_0 l0_1 l0_2 l0_3 l0_4 a1 = some r) :
  Calls Tryd.prog 62 #[.agg #[.slice A0_0 l0_0.length c0_0, .slice A0_1 l0_1.length c0_1, .slice A0_2 l0_2.length c0_2, .slice A0_3 l0_3.length c0_3, .slice A0_4 l0_4.length c0_4], .int .i64 a1] w fun e w' => e = .returned (.bool r) ∧ Below w.heap.size w w' := by
 have hu40 := Tryd.underlying40; have HR0_0 := qM hr0_0; have HC0_0 := qM hc0_0; clear hr0_0 hc0_0; have HR0_1 := qM hr0_1; have HC0_1 := qM hc0_1; clear hr0_1 hc0_1; have HR0_2 := qM hr0_2; have HC0_2 := qM hc0_2; clear hr0_2 hc0_2; have HR0_3 := qM hr0_3; have HC0_3 := qM hc0_3; clear hr0_3 hc0_3; have HR0_4 := qM hr0_4; have HC0_4 := qM hc0_4; clear hr0_4 hc0_4; have HB := qM (Below.refl w.heap.size w); have H : (if a1 ≥ 0 then (if a1 < (l0_0.length : Int) then (some true) else (if a1 < 0 then (some (decide (a1 ≥ (wrap64 (-(l0_1.length : Int)))))) else (some false))) else (if a1 < 0 then (some (decide (a1 ≥ (wrap64 (-(l0_1.length : Int)))))) else (some false))) = some r := h; clear h; (refine iteR ?_ ?_ H <;> clear H <;> intro c3 H)
 ·have c3b0 : decide (0 ≤ a1) = true := decide_eq_true c3
  clear c3; have HH_ := qM H; clear H; (go_enter Tryd.func62, Tryd.ntmps62)
  go_upto_region 1 with (first | ((with_reducible refine gate_dst (N := 2) rfl ?_); (try (refine gate_guard (by rfl) ?_; dsimp only)); refine box_event ?hg (N := 2) ?hd (cs := #[.slice A0_0 l0_0.length c0_0, .slice A0_1 l0_1.length c0_1, .slice A0_2 l0_2.length c0_2, .slice A0_3 l0_3.length c0_3, .slice A0_4 l0_4.length c0_4]) (t := 40) ?hr ?_; (case hd | hg => rfl); (case hr => first | (go_simp; done) | (go_simp; rfl)); intro gb213 hg w5 hbox hb; have BK213 := qM (hbox); have GW213 := qM (qG hg); have GE213 := GW213; replace HB := qM (qP qF hb); clear hb hbox hg; have hz6 := bx5 BK213.out))
  have H := HH_.out; clear HH_; (refine iteD ?_ ?_ H <;> clear H <;> intro c4b0 H)
  ·obtain rfl := Option.some.inj H
   go_wp2; (go_ret); exact ⟨qE, qF⟩
  ·refine iteD ?_ ?_ H <;> clear H <;> intro c7b0 H
   ·obtain rfl := Option.some.inj H
    go_wp2; (go_ret); exact ⟨qE, qF⟩
   ·obtain rfl := Option.some.inj H
    go_wp2; (go_ret); exact ⟨qE, qF⟩
 ·have c3b0 : decide (0 ≤ a1) = false := decide_eq_false c3
  clear c3; (refine iteD ?_ ?_ H <;> clear H <;> intro c12b0 H)
  ·obtain rfl := Option.some.inj H
   go_enter Tryd.func62, Tryd.ntmps62
   go_wp2_with (first | ((with_reducible refine gate_dst (N := 2) rfl ?_); (try (refine gate_guard (by rfl) ?_; dsimp only)); refine box_event ?hg (N := 2) ?hd (cs := #[.slice A0_0 l0_0.length c0_0, .slice A0_1 l0_1.length c0_1, .slice A0_2 l0_2.length c0_2, .slice A0_3 l0_3.length c0_3, .slice A0_4 l0_4.length c0_4]) (t := 40) ?hr ?_; (case hd | hg => rfl); (case hr => first | (go_simp; done) | (go_simp; rfl)); intro gb213 hg w13 hbox hb; have BK213 := qM (hbox); have GW213 := qM (qG hg); have GE213 := GW213; replace HB := qM (qP qF hb); clear hb hbox hg; have hz14 := bx5 BK213.out))
   (go_ret); exact ⟨qE, qF⟩
  ·obtain rfl := Option.some.inj H
   go_enter Tryd.func62, Tryd.ntmps62
   go_wp2_with (first | ((with_reducible refine gate_dst (N := 2) rfl ?_); (try (refine gate_guard (by rfl) ?_; dsimp only)); refine box_event ?hg (N := 2) ?hd (cs := #[.slice A0_0 l0_0.length c0_0, .slice A0_1 l0_1.length c0_1, .slice A0_2 l0_2.length c0_2, .slice A0_3 l0_3.length c0_3, .slice A0_4 l0_4.length c0_4]) (t := 40) ?hr ?_; (case hd | hg => rfl); (case hr => first | (go_simp; done) | (go_simp; rfl)); intro gb213 hg w15 hbox hb; have BK213 := qM (hbox); have GW213 := qM (qG hg); have GE213 := GW213; replace HB := qM (qP qF hb); clear hb hbox hg))
   (go_ret); exact ⟨qE, qF⟩
mutual
def arboristref15_start.j0 : Nat → Bool → List ByteArray → List ByteArray → List Int → List (S58) → List (S61) → Option (Bool)
 | 0, _, _, _, _, _, _ => none
 | k + 1, x33, x215000, x215001, x215002, x215003, x215004 => if x33 = true then (some true) else (arboristref15_start.l0 k 1 x215000 x215001 x215002 x215003 x215004)
def arboristref15_start.l0 : Nat → Int → List ByteArray → List ByteArray → List Int → List (S58) → List (S61) → Option (Bool)
 | 0, _, _, _, _, _, _ => none
 | k + 1, x4, x215000, x215001, x215002, x215003, x215004 => if x4 < (x215003.length : Int) then (if 0 ≤ x4 then (if ((rd_T58 x215003 x4).f0) = 0 then (some true) else (arboristref15_start.l0 k (wrap64 (x4 + 1)) x215000 x215001 x215002 x215003 x215004)) else (none)) else (some false)
end
def arboristref15_start.f (k : Nat) (l0_0 : List ByteArray) (l0_1 : List ByteArray) (l0_2 : List Int) (l0_3 : List (S58)) (l0_4 : List (S61)) : Option (Bool) := if 0 < (l0_3.length : Int) then (if ((rd_T58 l0_3 0).f0) = 0 then (if (((rd_T58 l0_3 0).f1).length : Int) = 1 then (if 0 < (((rd_T58 l0_3 0).f1).length : Int) then (if (rd ((rd_T58 l0_3 0).f1) 0) ≥ (-1) then (arboristref15_start.j0 k true l0_0 l0_1 l0_2 l0_3 l0_4) else ((arboristref15_Is.f l0_0 l0_1 l0_2 l0_3 l0_4 (rd ((rd_T58 l0_3 0).f1) 0)).bind fun t219 => (arboristref15_start.j0 k (!t219) l0_0 l0_1 l0_2 l0_3 l0_4))) else (none)) else (arboristref15_start.j0 k true l0_0 l0_1 l0_2 l0_3 l0_4)) else (arboristref15_start.j0 k true l0_0 l0_1 l0_2 l0_3 l0_4)) else (none)
theorem arboristref15_start.mono_l : ∀ k, (∀ y0 y1 y2 y3 y4 y5, LeO (arboristref15_start.j0 k y0 y1 y2 y3 y4 y5) (arboristref15_start.j0 (k + 1) y0 y1 y2 y3 y4 y5)) ∧ (∀ y0 y1 y2 y3 y4 y5, LeO (arboristref15_start.l0 k y0 y1 y2 y3 y4 y5) (arboristref15_start.l0 (k + 1) y0 y1 y2 y3 y4 y5))
 | 0 => ⟨fun _ _ _ _ _ _ r h => by simp [arboristref15_start.j0] at h, fun _ _ _ _ _ _ r h => by simp [arboristref15_start.l0] at h⟩
 | k + 1 => by
  obtain ⟨ih0, ih1⟩ := arboristref15_start.mono_l k; refine ⟨?_, ?_⟩
  ·intro y0 y1 y2 y3 y4 y5
   (unfold arboristref15_start.j0); exact qL
  ·intro y0 y1 y2 y3 y4 y5
   (unfold arboristref15_start.l0); exact qL
theorem arboristref15_start.mono : ∀ a0 a1 a2 a3 a4 k, LeO (arboristref15_start.f k a0 a1 a2 a3 a4) (arboristref15_start.f (k + 1) a0 a1 a2 a3 a4) := by
 (intro a0 a1 a2 a3 a4 k); obtain ⟨ih0, ih1⟩ := arboristref15_start.mono_l k; (unfold arboristref15_start.f); exact qL
def arboristref15_start.T2 : Bool × List (List Nat × List Nat) := (true, [([], []), ([0], [0]), ([1], [1]), ([2], [2]), ([3], [3]), ([4, 3], [3, 4]), ([5, 3], [3, 5]), ([6, 3], [3, 6]), ([3, 7], [3, 7]), ([8, 3], [8]), ([9], [9]), ([10, 9], [9, 10]), ([11, 9], [9, 11]), ([12, 9], [9, 12]), ([13, 9], [9, 13]), ([9, 14], [9, 14]), ([15, 9], [15]), ([16], [16]), ([16], [16]), ([18, 16], [16, 18]), ([19, 16], [16, 19]), ([20, 16], [16, 20]), ([17, 21, 16, 16], [16, 17, 21]), ([22, 16], [16, 22]), ([16, 23], [16, 23])])
def arboristref15_start.B2 : List Nat := [0, 1, 3, 7, 15, 31, 63, 127, 255, 511, 1023, 2047, 4095, 8191, 16383, 32767, 65535, 131071, 131071, 393215, 917503, 1966079, 4194303, 8388607, 16777215]
theorem arboristref15_start.tab2 : rtab .any (opsOf Tryd.f59 2) = arboristref15_start.T2 := by kernel_rfl
theorem arboristref15_start.bits2 : waitsOk arboristref15_start.T2.2 arboristref15_start.B2 = true := by kernel_rfl
theorem arboristref15_start.calls (k : Nat) (A0_0 : Option Addr) (c0_0 : Nat) (l0_0 : List ByteArray) (A0_1 : Option Addr) (c0_1 : Nat) (l0_1 : List ByteArray) (A0_2 : Option Addr) (c0_2 : Nat) (l0_2 : List Int) (A0_3 : Option Addr) (c0_3 : Nat) (l0_3 : List (S58)) (A0_4 : Option Addr) (c0_4 : Nat) (l0_4 : List (S61)) (r : Bool) (w : World) (hr0_0 : Kd.C Kd.string w A0_0 l0_0.length l0_0) (hc0_0 : l0_0.length ≤ c0_0) (hr0_1 : Kd.C Kd.string w A0_1 l0_1.length l0_1) (hc0_1 : l0_1.length ≤ c0_1) (hr0_2 : Kd.C (Kd.int .i64) w A0_2 l0_2.length l0_2) (hc0_2 : l0_2.length ≤ c0_2) (hr0_3 : Kd.C k58 w A0_3 l0_3.length l0_3) (hc0_3 : l0_3.length ≤ c0_3) (hr0_4 : Kd.C k61 w A0_4 l0_4.length l0_4) (hc0_4 : l0_4.length ≤ c0_4) (h : arboristref15_start.f k l0_0 l0_1 l0_2 l0_3 l0_4 = some r) :
  Calls Tryd.prog 59 #[.agg #[.slice A0_0 l0_0.length c0_0, .slice A0_1 l0_1.length c0_1, .slice A0_2 l0_2.length c0_2, .slice A0_3 l0_3.length c0_3, .slice A0_4 l0_4.length c0_4]] w fun e w' => e = .returned (.bool r) ∧ Below w.heap.size w w' := by
 have hu40 := Tryd.underlying40; have hu58 := Tryd.underlying58; have HR0_0 := qM hr0_0; have HC0_0 := qM hc0_0; clear hr0_0 hc0_0; have HR0_1 := qM hr0_1; have HC0_1 := qM hc0_1; clear hr0_1 hc0_1; have HR0_2 := qM hr0_2; have HC0_2 := qM hc0_2; clear hr0_2 hc0_2; have HR0_3 := qM hr0_3; have HC0_3 := qM hc0_3; clear hr0_3 hc0_3; have HR0_4 := qM hr0_4; have HC0_4 := qM hc0_4; clear hr0_4 hc0_4; have HB := qM (Below.refl w.heap.size w); have H : (if 0 < (l0_3.length : Int) then (if ((rd_T58 l0_3 0).f0) = 0 then (if (((rd_T58 l0_3 0).f1).length : Int) = 1 then (if 0 < (((rd_T58 l0_3 0).f1).length : Int) then (if (rd ((rd_T58 l0_3 0).f1) 0) ≥ (-1) then (arboristref15_start.j0 k true l0_0 l0_1 l0_2 l0_3 l0_4) else ((arboristref15_Is.f l0_0 l0_1 l0_2 l0_3 l0_4 (rd ((rd_T58 l0_3 0).f1) 0)).bind fun t219 => (arboristref15_start.j0 k (!t219) l0_0 l0_1 l0_2 l0_3 l0_4))) else (none)) else (arboristref15_start.j0 k true l0_0 l0_1 l0_2 l0_3 l0_4)) else (arboristref15_start.j0 k true l0_0 l0_1 l0_2 l0_3 l0_4)) else (none)) = some r := h; clear h; refine iteM ?_ H; clear H; (intro c2 H); have c2b0 := decide_eq_true c2; have c2b1 : decide (0 < l0_3.length) = true := decide_eq_true (by omega); clear c2; have HC3 := qM H; clear H; (go_enter Tryd.func59, Tryd.ntmps59)
 go_upto_region 2 with (first | ((with_reducible refine gate_dst (N := 1) rfl ?_); (try (refine gate_guard (by rfl) ?_; dsimp only)); refine box_event ?hg (N := 1) ?hd (cs := #[.slice A0_0 l0_0.length c0_0, .slice A0_1 l0_1.length c0_1, .slice A0_2 l0_2.length c0_2, .slice A0_3 l0_3.length c0_3, .slice A0_4 l0_4.length c0_4]) (t := 40) ?hr ?_; (case hd | hg => rfl); (case hr => first | (go_simp; done) | (go_simp; rfl)); intro gb214 hg w4 hbox hb; have BK214 := qM (hbox); have GW214 := qM (qG hg); have GE214 := GW214; replace HB := qM (qP qF hb); clear hb hbox hg; have hz5 := bx5 BK214.out; have p215 : 0 ≤ (0 : Int) := (by omega); have q215 : 0 < (l0_3.length : Int) := qo qX; obtain ⟨ad215, A215_1, c215_1, A215_2, c215_2, e215, hx215_0, hx215_1, hx215_2, hx215_3, hx215_4, hl215_1, hi215_1, hl215_2, hi215_2⟩ := at_T58 HR0_3.out 0 p215 q215; cases e215; have qi215 : (0 < l0_3.length) = True := eq_true (by omega); (try rw [show ((0 : Int)).toNat = 0 from rfl] at hx215_0); (try rw [show 0 * 5 = 0 from rfl] at hx215_0); (try rw [Addr.add_zero'] at hx215_0); (try rw [show ((0 : Int)).toNat = 0 from rfl] at hx215_1); (try rw [show 0 * 5 = 0 from rfl] at hx215_1); (try rw [Addr.add_zero'] at hx215_1); (try rw [show ((0 : Int)).toNat = 0 from rfl] at hx215_2); (try rw [show 0 * 5 = 0 from rfl] at hx215_2); (try rw [Addr.add_zero'] at hx215_2); (try rw [show ((0 : Int)).toNat = 0 from rfl] at hx215_3); (try rw [show 0 * 5 = 0 from rfl] at hx215_3); (try rw [Addr.add_zero'] at hx215_3); (try rw [show ((0 : Int)).toNat = 0 from rfl] at hx215_4); (try rw [show 0 * 5 = 0 from rfl] at hx215_4); (try rw [Addr.add_zero'] at hx215_4); replace hx215_0 := qv HB.out hx215_0; replace hx215_1 := qv HB.out hx215_1; replace hx215_2 := qv HB.out hx215_2; replace hx215_3 := qv HB.out hx215_3; replace hx215_4 := qv HB.out hx215_4; have HR215_1 := qM hi215_1; have HC215_1 := qM hl215_1; clear hi215_1 hl215_1; have HR215_2 := qM hi215_2; have HC215_2 := qM hl215_2; clear hi215_2 hl215_2; replace p215 := eq_true p215; replace q215 := eq_true q215) | ((with_reducible refine gate_dst (N := 3) rfl ?_); (try (refine gate_guard (by rfl) ?_; dsimp only)); refine box_event ?hg (N := 3) ?hd (cs := #[.int .i64 0, .slice none 0 0, .slice none 0 0, .string (⟨#[]⟩ : ByteArray), .int .i64 0]) (t := 58) ?hr ?_; (case hd | hg => rfl); (case hr => first | (go_simp; done) | (go_simp; rfl)); intro gb216 hg w6 hbox hb; have BK216 := qM (hbox); have GW216 := qM (qG hg); have GE216 := GW216; have NB214_216 := qM ((by rw [hg]; exact Nat.ne_of_lt (ql (g := gb214) qK) : gb214 ≠ gb216)); have NB216_214 := qM (Ne.symm NB214_216.out); replace BK214 := qM (qb (g := gb214) qK hb); replace HB := qM (qP qF hb); clear hb hbox hg; have hnb7 := NB216_214.out; have hnc7 := NB214_216.out; have hz8 := bx5 BK216.out))
 (try simp only [Act.put, List.setIfInBounds_toArray, List.set_cons_zero, List.set_cons_succ]); (go_cut [33] (fun v33 wc => ∃ (kq : Nat) (x33_2 : Bool), v33 = .bool x33_2 ∧ Aside0 (arboristref15_start.j0 kq x33_2 l0_0 l0_1 l0_2 l0_3 l0_4 = some r) ∧ Aside0 (kq ≤ k) ∧ Aside0 (wc.heap[gb214]? = some (.cells #[(.slice A0_0 l0_0.length c0_0), (.slice A0_1 l0_1.length c0_1), (.slice A0_2 l0_2.length c0_2), (.slice (some ad215) l0_3.length c0_3), (.slice A0_4 l0_4.length c0_4)] 40 (0, 0))) ∧ Aside0 (wc.heap[gb216]? = some (.cells #[.int .i64 ((rd_T58 l0_3 0).f0), (.slice A215_1 ((rd_T58 l0_3 0).f1).length c215_1), (.slice A215_2 ((rd_T58 l0_3 0).f2).length c215_2), .string ((rd_T58 l0_3 0).f3), .int .i64 ((rd_T58 l0_3 0).f4)] 58 (0, 0))) ∧ Aside0 (Below w.heap.size w wc)))
 case first =>
  have H := HC3.out; clear HC3; (refine iteE ?_ ?_ H <;> clear H <;> intro c9b0 c9b1 H)
  ·(first | rw [c9b0] | (simp only [i64_w, i32_w]; rw [c9b0]) | skip)
   refine iteE ?_ ?_ H <;> clear H <;> intro c10b0 c10b1 H
   ·refine iteM ?_ H
    clear H; (intro c11 H); have c11b0 := decide_eq_true c11; have c11b1 : decide (0 < ((rd_T58 l0_3 0).f1).length) = true := decide_eq_true (by omega); clear c11; (refine iteR ?_ ?_ H <;> clear H <;> intro c12 H)
    ·have c12b0 : decide ((-1) ≤ (rd ((rd_T58 l0_3 0).f1) 0)) = true := decide_eq_true c12
     clear c12; have H' := qM H; clear H; (try go_wp2)
     have n0_ : Aside0 ((((((w6.setCell ⟨gb216, 0, none⟩ (.int .i64 ((rd_T58 l0_3 0).f0))).setCell ⟨gb216, 1, none⟩ (.slice A215_1 ((rd_T58 l0_3 0).f1).length c215_1)).setCell ⟨gb216, 2, none⟩ (.slice A215_2 ((rd_T58 l0_3 0).f2).length c215_2)).setCell ⟨gb216, 3, none⟩ (.string ((rd_T58 l0_3 0).f3))).setCell ⟨gb216, 4, none⟩ (.int .i64 ((rd_T58 l0_3 0).f4))).heap[gb214]? = some (.cells #[.slice A0_0 l0_0.length c0_0, .slice A0_1 l0_1.length c0_1, .slice A0_2 l0_2.length c0_2, .slice (some ad215) l0_3.length c0_3, .slice A0_4 l0_4.length c0_4] 40 (0, 0))) := ⟨qK⟩
     have n1_ : Aside0 ((((((w6.setCell ⟨gb216, 0, none⟩ (.int .i64 ((rd_T58 l0_3 0).f0))).setCell ⟨gb216, 1, none⟩ (.slice A215_1 ((rd_T58 l0_3 0).f1).length c215_1)).setCell ⟨gb216, 2, none⟩ (.slice A215_2 ((rd_T58 l0_3 0).f2).length c215_2)).setCell ⟨gb216, 3, none⟩ (.string ((rd_T58 l0_3 0).f3))).setCell ⟨gb216, 4, none⟩ (.int .i64 ((rd_T58 l0_3 0).f4))).heap[gb216]? = some (.cells #[.int .i64 ((rd_T58 l0_3 0).f0), .slice A215_1 ((rd_T58 l0_3 0).f1).length c215_1, .slice A215_2 ((rd_T58 l0_3 0).f2).length c215_2, .string ((rd_T58 l0_3 0).f3), .int .i64 ((rd_T58 l0_3 0).f4)] 58 (0, 0))) := ⟨by (with_reducible repeat (first | refine qn ?_ _ | refine qd ?_ | refine qa ?_ _)); refine blk_put (cs := #[.int .i64 ((rd_T58 l0_3 0).f0), .slice A215_1 ((rd_T58 l0_3 0).f1).length c215_1, .slice A215_2 ((rd_T58 l0_3 0).f2).length c215_2, .string ((rd_T58 l0_3 0).f3), .int .i64 0]) ?_ 4 _ rfl; (with_reducible repeat (first | refine qn ?_ _ | refine qd ?_ | refine qa ?_ _)); refine blk_put (cs := #[.int .i64 ((rd_T58 l0_3 0).f0), .slice A215_1 ((rd_T58 l0_3 0).f1).length c215_1, .slice A215_2 ((rd_T58 l0_3 0).f2).length c215_2, .string (⟨#[]⟩ : ByteArray), .int .i64 0]) ?_ 3 _ rfl; (with_reducible repeat (first | refine qn ?_ _ | refine qd ?_ | refine qa ?_ _)); refine blk_put (cs := #[.int .i64 ((rd_T58 l0_3 0).f0), .slice A215_1 ((rd_T58 l0_3 0).f1).length c215_1, .slice none 0 0, .string (⟨#[]⟩ : ByteArray), .int .i64 0]) ?_ 2 _ rfl; (with_reducible repeat (first | refine qn ?_ _ | refine qd ?_ | refine qa ?_ _)); refine blk_put (cs := #[.int .i64 ((rd_T58 l0_3 0).f0), .slice none 0 0, .slice none 0 0, .string (⟨#[]⟩ : ByteArray), .int .i64 0]) ?_ 1 _ rfl; (with_reducible repeat (first | refine qn ?_ _ | refine qd ?_ | refine qa ?_ _)); refine blk_put (cs := #[.int .i64 0, .slice none 0 0, .slice none 0 0, .string (⟨#[]⟩ : ByteArray), .int .i64 0]) ?_ 0 _ rfl; (with_reducible repeat (first | refine qn ?_ _ | refine qd ?_ | refine qa ?_ _)); exact BK216.out⟩
     have n2_ : Aside0 (Below w.heap.size w (((((w6.setCell ⟨gb216, 0, none⟩ (.int .i64 ((rd_T58 l0_3 0).f0))).setCell ⟨gb216, 1, none⟩ (.slice A215_1 ((rd_T58 l0_3 0).f1).length c215_1)).setCell ⟨gb216, 2, none⟩ (.slice A215_2 ((rd_T58 l0_3 0).f2).length c215_2)).setCell ⟨gb216, 3, none⟩ (.string ((rd_T58 l0_3 0).f3))).setCell ⟨gb216, 4, none⟩ (.int .i64 ((rd_T58 l0_3 0).f4)))) := ⟨qF⟩; (try clear BK214); (try clear BK216); (try clear HB); (generalize (((((w6.setCell ⟨gb216, 0, none⟩ (.int .i64 ((rd_T58 l0_3 0).f0))).setCell ⟨gb216, 1, none⟩ (.slice A215_1 ((rd_T58 l0_3 0).f1).length c215_1)).setCell ⟨gb216, 2, none⟩ (.slice A215_2 ((rd_T58 l0_3 0).f2).length c215_2)).setCell ⟨gb216, 3, none⟩ (.string ((rd_T58 l0_3 0).f3))).setCell ⟨gb216, 4, none⟩ (.int .i64 ((rd_T58 l0_3 0).f4))) = w13 at n0_ n1_ n2_ ⊢); have BK214 := n0_; have BK216 := n1_; have HB := n2_; clear n0_ n1_ n2_; replace BK214 := qM (qd BK214.out); replace BK216 := qM (qd BK216.out); replace HB := qM (qD HB.out); have p217 : 0 ≤ (0 : Int) := (by omega); have q217 : 0 < (((rd_T58 l0_3 0).f1).length : Int) := qo qX; obtain ⟨ad217, e217, hx217_0⟩ := Kd.at_int HR215_1.out 0 p217 q217; have hw217_0 := hx217_0; (try simp only [show ((0 : Int)).toNat = 0 from rfl, show 0 * 1 = 0 from rfl, Addr.add_zero'] at hw217_0)
     cases e217
     have qi217 : (0 < ((rd_T58 l0_3 0).f1).length) = True := eq_true (by omega); (try simp only [show ((0 : Int)).toNat = 0 from rfl, Addr.add_zero'] at hx217_0); replace hx217_0 := qv HB.out hx217_0; replace p217 := eq_true p217; replace q217 := eq_true q217
     refine start_ (n := 25) (S := fun w' => w'.cell? ⟨gb216, 0, none⟩ = some (.int .i64 ((rd_T58 l0_3 0).f0)) ∧ w'.cell? ⟨gb216, 1, none⟩ = some (.slice (some ad217) ((rd_T58 l0_3 0).f1).length c215_1) ∧ w'.cell? ⟨gb216, 2, none⟩ = some (.slice A215_2 ((rd_T58 l0_3 0).f2).length c215_2) ∧ w'.cell? ⟨gb216, 3, none⟩ = some (.string ((rd_T58 l0_3 0).f3)) ∧ w'.cell? ⟨gb216, 4, none⟩ = some (.int .i64 ((rd_T58 l0_3 0).f4)) ∧ w'.cell? ad217 = some (.int .i64 (rd ((rd_T58 l0_3 0).f1) 0))) (ds := []) (Array.replicate 25 false) (by kernel_rfl) rfl rfl (by and_intros <;> first | exact qW | exact qv HB.out (by assumption)) (fun hHeld => ?_); refine with_tabW arboristref15_start.tab2 arboristref15_start.bits2 (fun HT_ HW_ => ?_)
     (generalize w13.drew = w14 at BK214 BK216 HB hx217_0 hHeld ⊢); refine Ord.enter 25 0 [.p 0 9, .t 1 10, .p 2 11, .p 3 12, .p 4 13, .t 5 14, .p 6 15, .p 7 16, .p 8 17, .p 9 18, .p 10 19, .t 11 20, .p 12 21, .t 13 22, .p 14 23, .p 15 24, .p 16 25, .u 17 26, .u 18 27, .u 19 28, .u 20 29, .u 21 30, .u 22 31, .u 23 32, .p 24 33] (by kernel_rfl) ?_; (repeat ((first | (show Ord (.u _ _ :: _) _; refine Ord.undef (a' := ?_) HT_ ?_ ?_) | (show Ord (.p _ _ :: _) _; refine Ord.pure (v := ?_) (a' := ?_) HT_ ?_ ?_ ?_; rotate_left; (intro w'; go_simp; with_reducible rfl)) | (show Ord (.t _ _ :: _) _; refine Ord.take (v := ?_) (a' := ?_) HT_ HW_ ?_ hHeld ?_ ?_; rotate_left; (intro w' hSw; (try dsimp only at hSw); go_simp; with_reducible rfl))); rotate_left; (simp only [Act.put, List.setIfInBounds_toArray, List.set_cons_zero, List.set_cons_succ, i64_w, i32_w]; rfl))); refine Ord.done (fl 25 33554431) (by kernel_rfl) ?_; refine done_ (done_of HT_.out (by kernel_rfl)) ?_; (try go_wp2); go_meet
     case rel => exact ⟨_, (true), qV, H', ⟨by first | omega | exact Nat.le_refl _⟩, ⟨qK⟩, ⟨qK⟩, ⟨qF⟩⟩
    ·have c12b0 : decide ((-1) ≤ (rd ((rd_T58 l0_3 0).f1) 0)) = false := decide_eq_false c12
     clear c12; replace H := Option.bind_eq_some_iff.mp H; obtain ⟨t219, A150, H⟩ := H; replace H : (arboristref15_start.j0 k (!t219) l0_0 l0_1 l0_2 l0_3 l0_4) = some r := H; have A15 := qM A150; clear A150; have H' := qM H; clear H; (try go_wp2)
     have n0_ : Aside0 ((((((w6.setCell ⟨gb216, 0, none⟩ (.int .i64 ((rd_T58 l0_3 0).f0))).setCell ⟨gb216, 1, none⟩ (.slice A215_1 ((rd_T58 l0_3 0).f1).length c215_1)).setCell ⟨gb216, 2, none⟩ (.slice A215_2 ((rd_T58 l0_3 0).f2).length c215_2)).setCell ⟨gb216, 3, none⟩ (.string ((rd_T58 l0_3 0).f3))).setCell ⟨gb216, 4, none⟩ (.int .i64 ((rd_T58 l0_3 0).f4))).heap[gb214]? = some (.cells #[.slice A0_0 l0_0.length c0_0, .slice A0_1 l0_1.length c0_1, .slice A0_2 l0_2.length c0_2, .slice (some ad215) l0_3.length c0_3, .slice A0_4 l0_4.length c0_4] 40 (0, 0))) := ⟨qK⟩
     have n1_ : Aside0 ((((((w6.setCell ⟨gb216, 0, none⟩ (.int .i64 ((rd_T58 l0_3 0).f0))).setCell ⟨gb216, 1, none⟩ (.slice A215_1 ((rd_T58 l0_3 0).f1).length c215_1)).setCell ⟨gb216, 2, none⟩ (.slice A215_2 ((rd_T58 l0_3 0).f2).length c215_2)).setCell ⟨gb216, 3, none⟩ (.string ((rd_T58 l0_3 0).f3))).setCell ⟨gb216, 4, none⟩ (.int .i64 ((rd_T58 l0_3 0).f4))).heap[gb216]? = some (.cells #[.int .i64 ((rd_T58 l0_3 0).f0), .slice A215_1 ((rd_T58 l0_3 0).f1).length c215_1, .slice A215_2 ((rd_T58 l0_3 0).f2).length c215_2, .string ((rd_T58 l0_3 0).f3), .int .i64 ((rd_T58 l0_3 0).f4)] 58 (0, 0))) := ⟨by (with_reducible repeat (first | refine qn ?_ _ | refine qd ?_ | refine qa ?_ _)); refine blk_put (cs := #[.int .i64 ((rd_T58 l0_3 0).f0), .slice A215_1 ((rd_T58 l0_3 0).f1).length c215_1, .slice A215_2 ((rd_T58 l0_3 0).f2).length c215_2, .string ((rd_T58 l0_3 0).f3), .int .i64 0]) ?_ 4 _ rfl; (with_reducible repeat (first | refine qn ?_ _ | refine qd ?_ | refine qa ?_ _)); refine blk_put (cs := #[.int .i64 ((rd_T58 l0_3 0).f0), .slice A215_1 ((rd_T58 l0_3 0).f1).length c215_1, .slice A215_2 ((rd_T58 l0_3 0).f2).length c215_2, .string (⟨#[]⟩ : ByteArray), .int .i64 0]) ?_ 3 _ rfl; (with_reducible repeat (first | refine qn ?_ _ | refine qd ?_ | refine qa ?_ _)); refine blk_put (cs := #[.int .i64 ((rd_T58 l0_3 0).f0), .slice A215_1 ((rd_T58 l0_3 0).f1).length c215_1, .slice none 0 0, .string (⟨#[]⟩ : ByteArray), .int .i64 0]) ?_ 2 _ rfl; (with_reducible repeat (first | refine qn ?_ _ | refine qd ?_ | refine qa ?_ _)); refine blk_put (cs := #[.int .i64 ((rd_T58 l0_3 0).f0), .slice none 0 0, .slice none 0 0, .string (⟨#[]⟩ : ByteArray), .int .i64 0]) ?_ 1 _ rfl; (with_reducible repeat (first | refine qn ?_ _ | refine qd ?_ | refine qa ?_ _)); refine blk_put (cs := #[.int .i64 0, .slice none 0 0, .slice none 0 0, .string (⟨#[]⟩ : ByteArray), .int .i64 0]) ?_ 0 _ rfl; (with_reducible repeat (first | refine qn ?_ _ | refine qd ?_ | refine qa ?_ _)); exact BK216.out⟩
     have n2_ : Aside0 (Below w.heap.size w (((((w6.setCell ⟨gb216, 0, none⟩ (.int .i64 ((rd_T58 l0_3 0).f0))).setCell ⟨gb216, 1, none⟩ (.slice A215_1 ((rd_T58 l0_3 0).f1).length c215_1)).setCell ⟨gb216, 2, none⟩ (.slice A215_2 ((rd_T58 l0_3 0).f2).length c215_2)).setCell ⟨gb216, 3, none⟩ (.string ((rd_T58 l0_3 0).f3))).setCell ⟨gb216, 4, none⟩ (.int .i64 ((rd_T58 l0_3 0).f4)))) := ⟨qF⟩; (try clear BK214); (try clear BK216); (try clear HB); (generalize (((((w6.setCell ⟨gb216, 0, none⟩ (.int .i64 ((rd_T58 l0_3 0).f0))).setCell ⟨gb216, 1, none⟩ (.slice A215_1 ((rd_T58 l0_3 0).f1).length c215_1)).setCell ⟨gb216, 2, none⟩ (.slice A215_2 ((rd_T58 l0_3 0).f2).length c215_2)).setCell ⟨gb216, 3, none⟩ (.string ((rd_T58 l0_3 0).f3))).setCell ⟨gb216, 4, none⟩ (.int .i64 ((rd_T58 l0_3 0).f4))) = w16 at n0_ n1_ n2_ ⊢); have BK214 := n0_; have BK216 := n1_; have HB := n2_; clear n0_ n1_ n2_; replace BK214 := qM (qd BK214.out); replace BK216 := qM (qd BK216.out); replace HB := qM (qD HB.out); have p217 : 0 ≤ (0 : Int) := (by omega); have q217 : 0 < (((rd_T58 l0_3 0).f1).length : Int) := qo qX; obtain ⟨ad217, e217, hx217_0⟩ := Kd.at_int HR215_1.out 0 p217 q217; have hw217_0 := hx217_0; (try simp only [show ((0 : Int)).toNat = 0 from rfl, show 0 * 1 = 0 from rfl, Addr.add_zero'] at hw217_0)
     cases e217
     have qi217 : (0 < ((rd_T58 l0_3 0).f1).length) = True := eq_true (by omega); (try simp only [show ((0 : Int)).toNat = 0 from rfl, Addr.add_zero'] at hx217_0); replace hx217_0 := qv HB.out hx217_0; replace p217 := eq_true p217; replace q217 := eq_true q217; have p218 : 0 ≤ (0 : Int) := (by omega); have q218 : 0 < (((rd_T58 l0_3 0).f1).length : Int) := qo qX; obtain ⟨ad218, e218, hx218_0⟩ := Kd.at_int HR215_1.out 0 p218 q218; have hw218_0 := hx218_0; (try simp only [show ((0 : Int)).toNat = 0 from rfl, show 0 * 1 = 0 from rfl, Addr.add_zero'] at hw218_0); obtain rfl : ad217 = ad218 := (by injection e218); have qi218 : (0 < ((rd_T58 l0_3 0).f1).length) = True := eq_true (by omega); (try simp only [show ((0 : Int)).toNat = 0 from rfl, Addr.add_zero'] at hx218_0); replace hx218_0 := qv HB.out hx218_0; replace p218 := eq_true p218; replace q218 := eq_true q218
     refine start_ (n := 25) (S := fun w' => w'.cell? ⟨gb216, 0, none⟩ = some (.int .i64 ((rd_T58 l0_3 0).f0)) ∧ w'.cell? ⟨gb216, 1, none⟩ = some (.slice (some ad217) ((rd_T58 l0_3 0).f1).length c215_1) ∧ w'.cell? ⟨gb216, 2, none⟩ = some (.slice A215_2 ((rd_T58 l0_3 0).f2).length c215_2) ∧ w'.cell? ⟨gb216, 3, none⟩ = some (.string ((rd_T58 l0_3 0).f3)) ∧ w'.cell? ⟨gb216, 4, none⟩ = some (.int .i64 ((rd_T58 l0_3 0).f4)) ∧ w'.cell? ⟨gb214, 0, none⟩ = some (.slice A0_0 l0_0.length c0_0) ∧ w'.cell? ⟨gb214, 1, none⟩ = some (.slice A0_1 l0_1.length c0_1) ∧ w'.cell? ⟨gb214, 2, none⟩ = some (.slice A0_2 l0_2.length c0_2) ∧ w'.cell? ⟨gb214, 3, none⟩ = some (.slice (some ad215) l0_3.length c0_3) ∧ w'.cell? ⟨gb214, 4, none⟩ = some (.slice A0_4 l0_4.length c0_4) ∧ w'.cell? ad217 = some (.int .i64 (rd ((rd_T58 l0_3 0).f1) 0)) ∧ w'.cell? ad217 = some (.int .i64 (rd ((rd_T58 l0_3 0).f1) 0))) (ds := []) (Array.replicate 25 false) (by kernel_rfl) rfl rfl (by and_intros <;> first | exact qW | exact qv HB.out (by assumption)) (fun hHeld => ?_); refine with_tabW arboristref15_start.tab2 arboristref15_start.bits2 (fun HT_ HW_ => ?_)
     (generalize w16.drew = w17 at BK214 BK216 HB hx217_0 hx218_0 hHeld ⊢); refine Ord.enter 25 0 [.p 0 9, .t 1 10, .p 2 11, .p 3 12, .p 4 13, .t 5 14, .p 6 15, .p 7 16, .p 8 17, .p 9 18, .p 10 19, .t 11 20, .p 12 21, .t 13 22, .p 14 23, .p 15 24, .p 16 25, .p 18 27, .t 17 26, .t 19 28, .p 20 29, .t 21 30] (by kernel_rfl) ?_; (repeat ((first | (show Ord (.p _ _ :: _) _; refine Ord.pure (v := ?_) (a' := ?_) HT_ ?_ ?_ ?_; rotate_left; (intro w'; go_simp; with_reducible rfl)) | (show Ord (.t _ _ :: _) _; refine Ord.take (v := ?_) (a' := ?_) HT_ HW_ ?_ hHeld ?_ ?_; rotate_left; (intro w' hSw; (try dsimp only at hSw); go_simp; with_reducible rfl))); rotate_left; (simp only [Act.put, List.setIfInBounds_toArray, List.set_cons_zero, List.set_cons_succ, i64_w, i32_w]; rfl))); refine Ord.done (fl 25 4194303) (by kernel_rfl) ?_; refine one_ (i := 22) (N := some 31) (fl 25 8388607) rfl rfl (one_of HT_.out (by kernel_rfl)) (by decide) (fun K hK => ?_); refine goes_ Tryd.func62 (by kernel_rfl) rfl #[.agg #[.slice A0_0 l0_0.length c0_0, .slice A0_1 l0_1.length c0_1, .slice A0_2 l0_2.length c0_2, .slice (some ad215) l0_3.length c0_3, .slice A0_4 l0_4.length c0_4], .int .i64 (rd ((rd_T58 l0_3 0).f1) 0)] (by rfl) rfl rfl (by (try simp only [List.map_toArray, List.map_cons, List.map_nil]); first | done | rfl | (simp only [List.length_drop, List.length_take]; rfl)) ?_; (with_reducible refine (arboristref15_Is.calls _ _ l0_0 _ _ l0_1 _ _ l0_2 _ _ l0_3 _ _ l0_4 (rd ((rd_T58 l0_3 0).f1) 0) t219 _ ?side1 ?side2 ?side3 ?side4 ?side5 ?side6 ?side7 ?side8 ?side9 ?side10 A15.out).mono ?_); (case side1 | side3 | side5 => exact qY); (case side2 | side4 | side6 => exact qO)
     (case side7 | side9 => exact qY); (case side8 | side10 => exact qO); (rintro e w18 ⟨rfl, hb⟩); refine ⟨_, rfl, ?_⟩; replace BK214 := qM (qb (g := gb214) qK hb); replace BK216 := qM (qb (g := gb216) qK hb); replace HB := qM (qP qF hb); (try clear hb); (try clear hb2); (try clear hk); (try clear hi); refine hK.out _ _ (by and_intros <;> first | exact qW | exact qv HB.out (by assumption)) (fun hHeld => ?_); clear hK K; refine norm_ (a' := ?_) ?_ ?_; rotate_left; (show Act.put _ (some 31) _ = _; simp only [Act.put, List.setIfInBounds_toArray, List.set_cons_zero, List.set_cons_succ, i64_w, i32_w]; rfl); refine pure_ (i := 23) (N := some 32) (v := ?_) (a' := ?_) (fl 25 16777215) rfl rfl (any_of HT_.out (by kernel_rfl)) (fun _ _ _ h => h) (Or.inl ⟨by rfl, ?_⟩) ?_ ?_
     rotate_left; (intro w'; go_simp; with_reducible rfl); rotate_left; (simp only [Act.put, List.setIfInBounds_toArray, List.set_cons_zero, List.set_cons_succ, i64_w, i32_w]; rfl); refine pure_ (i := 24) (N := some 33) (v := ?_) (a' := ?_) (fl 25 33554431) rfl rfl (any_of HT_.out (by kernel_rfl)) (fun _ _ _ h => h) (Or.inl ⟨by rfl, ?_⟩) ?_ ?_; rotate_left; (intro w'; go_simp; with_reducible rfl); rotate_left; (simp only [Act.put, List.setIfInBounds_toArray, List.set_cons_zero, List.set_cons_succ, i64_w, i32_w]; rfl); refine done_ (done_of HT_.out (by kernel_rfl)) ?_; (try go_wp2); go_meet
     case rel => exact ⟨_, (!t219), qV, H', ⟨by first | omega | exact Nat.le_refl _⟩, ⟨qK⟩, ⟨qK⟩, ⟨qF⟩⟩
   ·intro c10
    have H' := qM H; clear H; (try go_wp2)
    have n0_ : Aside0 ((((((w6.setCell ⟨gb216, 0, none⟩ (.int .i64 ((rd_T58 l0_3 0).f0))).setCell ⟨gb216, 1, none⟩ (.slice A215_1 ((rd_T58 l0_3 0).f1).length c215_1)).setCell ⟨gb216, 2, none⟩ (.slice A215_2 ((rd_T58 l0_3 0).f2).length c215_2)).setCell ⟨gb216, 3, none⟩ (.string ((rd_T58 l0_3 0).f3))).setCell ⟨gb216, 4, none⟩ (.int .i64 ((rd_T58 l0_3 0).f4))).heap[gb214]? = some (.cells #[.slice A0_0 l0_0.length c0_0, .slice A0_1 l0_1.length c0_1, .slice A0_2 l0_2.length c0_2, .slice (some ad215) l0_3.length c0_3, .slice A0_4 l0_4.length c0_4] 40 (0, 0))) := ⟨qK⟩
    have n1_ : Aside0 ((((((w6.setCell ⟨gb216, 0, none⟩ (.int .i64 ((rd_T58 l0_3 0).f0))).setCell ⟨gb216, 1, none⟩ (.slice A215_1 ((rd_T58 l0_3 0).f1).length c215_1)).setCell ⟨gb216, 2, none⟩ (.slice A215_2 ((rd_T58 l0_3 0).f2).length c215_2)).setCell ⟨gb216, 3, none⟩ (.string ((rd_T58 l0_3 0).f3))).setCell ⟨gb216, 4, none⟩ (.int .i64 ((rd_T58 l0_3 0).f4))).heap[gb216]? = some (.cells #[.int .i64 ((rd_T58 l0_3 0).f0), .slice A215_1 ((rd_T58 l0_3 0).f1).length c215_1, .slice A215_2 ((rd_T58 l0_3 0).f2).length c215_2, .string ((rd_T58 l0_3 0).f3), .int .i64 ((rd_T58 l0_3 0).f4)] 58 (0, 0))) := ⟨by (with_reducible repeat (first | refine qn ?_ _ | refine qd ?_ | refine qa ?_ _)); refine blk_put (cs := #[.int .i64 ((rd_T58 l0_3 0).f0), .slice A215_1 ((rd_T58 l0_3 0).f1).length c215_1, .slice A215_2 ((rd_T58 l0_3 0).f2).length c215_2, .string ((rd_T58 l0_3 0).f3), .int .i64 0]) ?_ 4 _ rfl; (with_reducible repeat (first | refine qn ?_ _ | refine qd ?_ | refine qa ?_ _)); refine blk_put (cs := #[.int .i64 ((rd_T58 l0_3 0).f0), .slice A215_1 ((rd_T58 l0_3 0).f1).length c215_1, .slice A215_2 ((rd_T58 l0_3 0).f2).length c215_2, .string (⟨#[]⟩ : ByteArray), .int .i64 0]) ?_ 3 _ rfl; (with_reducible repeat (first | refine qn ?_ _ | refine qd ?_ | refine qa ?_ _)); refine blk_put (cs := #[.int .i64 ((rd_T58 l0_3 0).f0), .slice A215_1 ((rd_T58 l0_3 0).f1).length c215_1, .slice none 0 0, .string (⟨#[]⟩ : ByteArray), .int .i64 0]) ?_ 2 _ rfl; (with_reducible repeat (first | refine qn ?_ _ | refine qd ?_ | refine qa ?_ _)); refine blk_put (cs := #[.int .i64 ((rd_T58 l0_3 0).f0), .slice none 0 0, .slice none 0 0, .string (⟨#[]⟩ : ByteArray), .int .i64 0]) ?_ 1 _ rfl; (with_reducible repeat (first | refine qn ?_ _ | refine qd ?_ | refine qa ?_ _)); refine blk_put (cs := #[.int .i64 0, .slice none 0 0, .slice none 0 0, .string (⟨#[]⟩ : ByteArray), .int .i64 0]) ?_ 0 _ rfl; (with_reducible repeat (first | refine qn ?_ _ | refine qd ?_ | refine qa ?_ _)); exact BK216.out⟩
    have n2_ : Aside0 (Below w.heap.size w (((((w6.setCell ⟨gb216, 0, none⟩ (.int .i64 ((rd_T58 l0_3 0).f0))).setCell ⟨gb216, 1, none⟩ (.slice A215_1 ((rd_T58 l0_3 0).f1).length c215_1)).setCell ⟨gb216, 2, none⟩ (.slice A215_2 ((rd_T58 l0_3 0).f2).length c215_2)).setCell ⟨gb216, 3, none⟩ (.string ((rd_T58 l0_3 0).f3))).setCell ⟨gb216, 4, none⟩ (.int .i64 ((rd_T58 l0_3 0).f4)))) := ⟨qF⟩; (try clear BK214); (try clear BK216); (try clear HB); (generalize (((((w6.setCell ⟨gb216, 0, none⟩ (.int .i64 ((rd_T58 l0_3 0).f0))).setCell ⟨gb216, 1, none⟩ (.slice A215_1 ((rd_T58 l0_3 0).f1).length c215_1)).setCell ⟨gb216, 2, none⟩ (.slice A215_2 ((rd_T58 l0_3 0).f2).length c215_2)).setCell ⟨gb216, 3, none⟩ (.string ((rd_T58 l0_3 0).f3))).setCell ⟨gb216, 4, none⟩ (.int .i64 ((rd_T58 l0_3 0).f4))) = w19 at n0_ n1_ n2_ ⊢); have BK214 := n0_; have BK216 := n1_; have HB := n2_; clear n0_ n1_ n2_; replace BK214 := qM (qd BK214.out); replace BK216 := qM (qd BK216.out); replace HB := qM (qD HB.out)
    refine start_ (n := 25) (S := fun w' => w'.cell? ⟨gb216, 0, none⟩ = some (.int .i64 ((rd_T58 l0_3 0).f0)) ∧ w'.cell? ⟨gb216, 1, none⟩ = some (.slice A215_1 ((rd_T58 l0_3 0).f1).length c215_1) ∧ w'.cell? ⟨gb216, 2, none⟩ = some (.slice A215_2 ((rd_T58 l0_3 0).f2).length c215_2) ∧ w'.cell? ⟨gb216, 3, none⟩ = some (.string ((rd_T58 l0_3 0).f3)) ∧ w'.cell? ⟨gb216, 4, none⟩ = some (.int .i64 ((rd_T58 l0_3 0).f4))) (ds := []) (Array.replicate 25 false) (by kernel_rfl) rfl rfl (by and_intros <;> first | exact qW | exact qv HB.out (by assumption)) (fun hHeld => ?_); refine with_tabW arboristref15_start.tab2 arboristref15_start.bits2 (fun HT_ HW_ => ?_)
    (generalize w19.drew = w20 at BK214 BK216 HB hHeld ⊢); refine Ord.enter 25 0 [.p 0 9, .t 1 10, .p 2 11, .p 3 12, .p 4 13, .t 5 14, .p 6 15, .p 7 16, .p 8 17, .p 9 18, .u 10 19, .u 11 20, .u 12 21, .u 13 22, .u 14 23, .p 15 24, .p 16 25, .u 17 26, .u 18 27, .u 19 28, .u 20 29, .u 21 30, .u 22 31, .u 23 32, .p 24 33] (by kernel_rfl) ?_; (repeat ((first | (show Ord (.u _ _ :: _) _; refine Ord.undef (a' := ?_) HT_ ?_ ?_) | (show Ord (.p _ _ :: _) _; refine Ord.pure (v := ?_) (a' := ?_) HT_ ?_ ?_ ?_; rotate_left; (intro w'; go_simp; with_reducible rfl)) | (show Ord (.t _ _ :: _) _; refine Ord.take (v := ?_) (a' := ?_) HT_ HW_ ?_ hHeld ?_ ?_; rotate_left; (intro w' hSw; (try dsimp only at hSw); go_simp; with_reducible rfl))); rotate_left; (simp only [Act.put, List.setIfInBounds_toArray, List.set_cons_zero, List.set_cons_succ, i64_w, i32_w]; rfl))); refine Ord.done (fl 25 33554431) (by kernel_rfl) ?_; refine done_ (done_of HT_.out (by kernel_rfl)) ?_; (try go_wp2); go_meet
    case rel => exact ⟨_, (true), qV, H', ⟨by first | omega | exact Nat.le_refl _⟩, ⟨qK⟩, ⟨qK⟩, ⟨qF⟩⟩
  ·intro c9
   (first | rw [c9b0] | (simp only [i64_w, i32_w]; rw [c9b0]) | skip); have H' := qM H; clear H; (try go_wp2)
   have n0_ : Aside0 ((((((w6.setCell ⟨gb216, 0, none⟩ (.int .i64 ((rd_T58 l0_3 0).f0))).setCell ⟨gb216, 1, none⟩ (.slice A215_1 ((rd_T58 l0_3 0).f1).length c215_1)).setCell ⟨gb216, 2, none⟩ (.slice A215_2 ((rd_T58 l0_3 0).f2).length c215_2)).setCell ⟨gb216, 3, none⟩ (.string ((rd_T58 l0_3 0).f3))).setCell ⟨gb216, 4, none⟩ (.int .i64 ((rd_T58 l0_3 0).f4))).heap[gb214]? = some (.cells #[.slice A0_0 l0_0.length c0_0, .slice A0_1 l0_1.length c0_1, .slice A0_2 l0_2.length c0_2, .slice (some ad215) l0_3.length c0_3, .slice A0_4 l0_4.length c0_4] 40 (0, 0))) := ⟨qK⟩
   have n1_ : Aside0 ((((((w6.setCell ⟨gb216, 0, none⟩ (.int .i64 ((rd_T58 l0_3 0).f0))).setCell ⟨gb216, 1, none⟩ (.slice A215_1 ((rd_T58 l0_3 0).f1).length c215_1)).setCell ⟨gb216, 2, none⟩ (.slice A215_2 ((rd_T58 l0_3 0).f2).length c215_2)).setCell ⟨gb216, 3, none⟩ (.string ((rd_T58 l0_3 0).f3))).setCell ⟨gb216, 4, none⟩ (.int .i64 ((rd_T58 l0_3 0).f4))).heap[gb216]? = some (.cells #[.int .i64 ((rd_T58 l0_3 0).f0), .slice A215_1 ((rd_T58 l0_3 0).f1).length c215_1, .slice A215_2 ((rd_T58 l0_3 0).f2).length c215_2, .string ((rd_T58 l0_3 0).f3), .int .i64 ((rd_T58 l0_3 0).f4)] 58 (0, 0))) := ⟨by (with_reducible repeat (first | refine qn ?_ _ | refine qd ?_ | refine qa ?_ _)); refine blk_put (cs := #[.int .i64 ((rd_T58 l0_3 0).f0), .slice A215_1 ((rd_T58 l0_3 0).f1).length c215_1, .slice A215_2 ((rd_T58 l0_3 0).f2).length c215_2, .string ((rd_T58 l0_3 0).f3), .int .i64 0]) ?_ 4 _ rfl; (with_reducible repeat (first | refine qn ?_ _ | refine qd ?_ | refine qa ?_ _)); refine blk_put (cs := #[.int .i64 ((rd_T58 l0_3 0).f0), .slice A215_1 ((rd_T58 l0_3 0).f1).length c215_1, .slice A215_2 ((rd_T58 l0_3 0).f2).length c215_2, .string (⟨#[]⟩ : ByteArray), .int .i64 0]) ?_ 3 _ rfl; (with_reducible repeat (first | refine qn ?_ _ | refine qd ?_ | refine qa ?_ _)); refine blk_put (cs := #[.int .i64 ((rd_T58 l0_3 0).f0), .slice A215_1 ((rd_T58 l0_3 0).f1).length c215_1, .slice none 0 0, .string (⟨#[]⟩ : ByteArray), .int .i64 0]) ?_ 2 _ rfl; (with_reducible repeat (first | refine qn ?_ _ | refine qd ?_ | refine qa ?_ _)); refine blk_put (cs := #[.int .i64 ((rd_T58 l0_3 0).f0), .slice none 0 0, .slice none 0 0, .string (⟨#[]⟩ : ByteArray), .int .i64 0]) ?_ 1 _ rfl; (with_reducible repeat (first | refine qn ?_ _ | refine qd ?_ | refine qa ?_ _)); refine blk_put (cs := #[.int .i64 0, .slice none 0 0, .slice none 0 0, .string (⟨#[]⟩ : ByteArray), .int .i64 0]) ?_ 0 _ rfl; (with_reducible repeat (first | refine qn ?_ _ | refine qd ?_ | refine qa ?_ _)); exact BK216.out⟩
   have n2_ : Aside0 (Below w.heap.size w (((((w6.setCell ⟨gb216, 0, none⟩ (.int .i64 ((rd_T58 l0_3 0).f0))).setCell ⟨gb216, 1, none⟩ (.slice A215_1 ((rd_T58 l0_3 0).f1).length c215_1)).setCell ⟨gb216, 2, none⟩ (.slice A215_2 ((rd_T58 l0_3 0).f2).length c215_2)).setCell ⟨gb216, 3, none⟩ (.string ((rd_T58 l0_3 0).f3))).setCell ⟨gb216, 4, none⟩ (.int .i64 ((rd_T58 l0_3 0).f4)))) := ⟨qF⟩; (try clear BK214); (try clear BK216); (try clear HB); (generalize (((((w6.setCell ⟨gb216, 0, none⟩ (.int .i64 ((rd_T58 l0_3 0).f0))).setCell ⟨gb216, 1, none⟩ (.slice A215_1 ((rd_T58 l0_3 0).f1).length c215_1)).setCell ⟨gb216, 2, none⟩ (.slice A215_2 ((rd_T58 l0_3 0).f2).length c215_2)).setCell ⟨gb216, 3, none⟩ (.string ((rd_T58 l0_3 0).f3))).setCell ⟨gb216, 4, none⟩ (.int .i64 ((rd_T58 l0_3 0).f4))) = w21 at n0_ n1_ n2_ ⊢); have BK214 := n0_; have BK216 := n1_; have HB := n2_; clear n0_ n1_ n2_; replace BK214 := qM (qd BK214.out); replace BK216 := qM (qd BK216.out); replace HB := qM (qD HB.out)
   refine start_ (n := 25) (S := fun w' => w'.cell? ⟨gb216, 0, none⟩ = some (.int .i64 ((rd_T58 l0_3 0).f0)) ∧ w'.cell? ⟨gb216, 1, none⟩ = some (.slice A215_1 ((rd_T58 l0_3 0).f1).length c215_1) ∧ w'.cell? ⟨gb216, 2, none⟩ = some (.slice A215_2 ((rd_T58 l0_3 0).f2).length c215_2) ∧ w'.cell? ⟨gb216, 3, none⟩ = some (.string ((rd_T58 l0_3 0).f3)) ∧ w'.cell? ⟨gb216, 4, none⟩ = some (.int .i64 ((rd_T58 l0_3 0).f4))) (ds := []) (Array.replicate 25 false) (by kernel_rfl) rfl rfl (by and_intros <;> first | exact qW | exact qv HB.out (by assumption)) (fun hHeld => ?_); refine with_tabW arboristref15_start.tab2 arboristref15_start.bits2 (fun HT_ HW_ => ?_)
   (generalize w21.drew = w22 at BK214 BK216 HB hHeld ⊢); refine Ord.enter 25 0 [.p 0 9, .t 1 10, .p 2 11, .p 3 12, .u 4 13, .u 5 14, .u 6 15, .u 7 16, .p 8 17, .p 9 18, .u 10 19, .u 11 20, .u 12 21, .u 13 22, .u 14 23, .p 15 24, .p 16 25, .u 17 26, .u 18 27, .u 19 28, .u 20 29, .u 21 30, .u 22 31, .u 23 32, .p 24 33] (by kernel_rfl) ?_; (repeat ((first | (show Ord (.u _ _ :: _) _; refine Ord.undef (a' := ?_) HT_ ?_ ?_) | (show Ord (.p _ _ :: _) _; refine Ord.pure (v := ?_) (a' := ?_) HT_ ?_ ?_ ?_; rotate_left; (intro w'; go_simp; with_reducible rfl)) | (show Ord (.t _ _ :: _) _; refine Ord.take (v := ?_) (a' := ?_) HT_ HW_ ?_ hHeld ?_ ?_; rotate_left; (intro w' hSw; (try dsimp only at hSw); go_simp; with_reducible rfl))); rotate_left; (simp only [Act.put, List.setIfInBounds_toArray, List.set_cons_zero, List.set_cons_succ, i64_w, i32_w]; rfl))); refine Ord.done (fl 25 33554431) (by kernel_rfl) ?_; refine done_ (done_of HT_.out (by kernel_rfl)) ?_; (try go_wp2); go_meet
   case rel => exact ⟨_, (true), qV, H', ⟨by first | omega | exact Nat.le_refl _⟩, ⟨qK⟩, ⟨qK⟩, ⟨qF⟩⟩
 case rest =>
  clear HC3; (try clear c1); (try clear c2); (try clear p2); (try clear q2); (try clear hx2); (try clear qi2); (try clear c6); (try clear c9); (try clear c9b0); (try clear c9b1); (try clear c10); (try clear c10b0); (try clear c10b1); (try clear c11); (try clear c21); (try clear p21); (try clear q21); (try clear hx21); (try clear qi21); (try clear hx217_0); (try clear hx218_0); (try clear p218); (try clear q218); obtain ⟨kq, x33_2, rfl, HA, HJ2, BK214, BK216, HB⟩ := hcut
  cases kq with
  | zero => exact absurd HA.out (by simp [arboristref15_start.j0])
  | succ kj2 =>
   have H := HA.out; clear HA; (simp only [arboristref15_start.j0] at H); (refine iteR ?_ ?_ H <;> clear H <;> intro c23 H)
   ·subst c23
    obtain rfl := Option.some.inj H; go_wp2; (go_ret); exact ⟨qE, qF⟩
   ·replace c23 := Bool.eq_false_iff.mpr c23
    subst c23; have H' := qM H; clear H; go_wp2; (go_loopg [4] kj2 (fun kq v4 w' => ∃ (x4_2 : Int), v4 = .int .i64 x4_2 ∧ Aside0 (arboristref15_start.l0 kq x4_2 l0_0 l0_1 l0_2 l0_3 l0_4 = some r) ∧ Aside0 (kq ≤ kj2) ∧ Aside0 (w'.heap[gb214]? = some (.cells #[(.slice A0_0 l0_0.length c0_0), (.slice A0_1 l0_1.length c0_1), (.slice A0_2 l0_2.length c0_2), (.slice (some ad215) l0_3.length c0_3), (.slice A0_4 l0_4.length c0_4)] 40 (0, 0))) ∧ Aside0 (w'.heap[gb216]? = some (.cells #[.int .i64 ((rd_T58 l0_3 0).f0), (.slice A215_1 ((rd_T58 l0_3 0).f1).length c215_1), (.slice A215_2 ((rd_T58 l0_3 0).f2).length c215_2), .string ((rd_T58 l0_3 0).f3), .int .i64 ((rd_T58 l0_3 0).f4)] 58 (0, 0))) ∧ Aside0 (Below w.heap.size w w')))
    case atStart => exact ⟨(1), qV, H', ⟨Nat.le_refl _⟩, ⟨qK⟩, ⟨qK⟩, ⟨qF⟩⟩
    case round =>
     (clear H'); (try clear c1); (try clear c2); (try clear p2); (try clear q2); (try clear hx2); (try clear qi2); (try clear c6); (try clear c9); (try clear c9b0); (try clear c9b1); (try clear c10); (try clear c10b0); (try clear c10b1); (try clear c11); (try clear c21); (try clear p21); (try clear q21); (try clear hx21); (try clear qi21); (try clear c23); (try clear hx217_0); (try clear hx218_0); (try clear p2); (try clear p21); (try clear p218); (try clear q2); (try clear q21); (try clear q218); obtain ⟨x4_2, rfl, HA, HK2, BK214, BK216, HB⟩ := hrel
     cases gk with
     | zero => exact absurd HA.out (by simp [arboristref15_start.l0])
     | succ k2 =>
      have H := HA.out; clear HA; (simp only [arboristref15_start.l0] at H); have hnb27 := NB214_216.out; have hnc27 := NB216_214.out; have hz28 := bx5 BK214.out; (refine iteD ?_ ?_ H <;> clear H <;> intro c24b0 H)
      ·refine iteN ?_ H
       clear H; (intro c25b0 H); have p220 : 0 ≤ (x4_2 : Int) := qo qX; have q220 : x4_2 < (l0_3.length : Int) := qo qX; obtain ⟨ad220, A220_1, c220_1, A220_2, c220_2, e220, hx220_0, hx220_1, hx220_2, hx220_3, hx220_4, hl220_1, hi220_1, hl220_2, hi220_2⟩ := at_T58 HR0_3.out x4_2 p220 q220; obtain rfl : ad215 = ad220 := (by injection e220); replace hx220_0 := qv HB.out hx220_0; replace hx220_1 := qv HB.out hx220_1; replace hx220_2 := qv HB.out hx220_2; replace hx220_3 := qv HB.out hx220_3; replace hx220_4 := qv HB.out hx220_4; have HR220_1 := qM hi220_1; have HC220_1 := qM hl220_1; clear hi220_1 hl220_1; have HR220_2 := qM hi220_2; have HC220_2 := qM hl220_2; clear hi220_2 hl220_2; replace p220 := eq_true p220; replace q220 := eq_true q220; (refine iteE ?_ ?_ H <;> clear H <;> intro c26b0 c26b1 H)
       ·obtain rfl := Option.some.inj H
        go_wp2; (go_ret); exact ⟨qE, qF⟩
       ·intro c26
        have H' := qM H; clear H; go_wp2; (go_roundg k2)
        case measure => have := HJ2.out; have := HK2.out; omega
        case rel => exact ⟨(wrap64 (x4_2 + 1)), qV, H', ⟨by have := HJ2.out; have := HK2.out; omega⟩, ⟨qK⟩, ⟨qK⟩, ⟨qF⟩⟩
      ·obtain rfl := Option.some.inj H
       go_wp2; (go_ret); exact ⟨qE, qF⟩
mutual
def arboristref15_rule.j0 : Nat → Bool → List ByteArray → List ByteArray → List Int → List (S58) → List (S61) → Int → List Int → List ByteArray → ByteArray → Int → Option (Int)
 | 0, _, _, _, _, _, _, _, _, _, _, _ => none
 | k + 1, x45, x222000, x222001, x222002, x222003, x222004, x224000, x224001, x224002, x224003, x224004 => if x45 = true then (some 22) else (arboristref15_rule.l0 k 0 x222000 x222001 x222002 x222003 x222004 x224000 x224001 x224002 x224003 x224004)
def arboristref15_rule.l0 : Nat → Int → List ByteArray → List ByteArray → List Int → List (S58) → List (S61) → Int → List Int → List ByteArray → ByteArray → Int → Option (Int)
 | 0, _, _, _, _, _, _, _, _, _, _, _ => none
 | k + 1, x6, x222000, x222001, x222002, x222003, x222004, x224000, x224001, x224002, x224003, x224004 => if x6 < (x224001.length : Int) then (if 0 ≤ x6 then ((arboristref15_Is.f x222000 x222001 x222002 x222003 x222004 (rd x224001 x6)).bind fun t226 => (if t226 = true then (if (rd x224001 x6) = 0 then (some 21) else (if (rd x224001 x6) = 1 then (some 21) else (if (rd x224001 x6) = (-1) then (some 21) else (arboristref15_rule.l0 k (wrap64 (x6 + 1)) x222000 x222001 x222002 x222003 x222004 x224000 x224001 x224002 x224003 x224004)))) else (some 21))) else (none)) else (if (x224002.length : Int) = 0 then (arboristref15_rule.j2 k false x222000 x222001 x222002 x222003 x222004 x224000 x224001 x224002 x224003 x224004) else (arboristref15_rule.j2 k ((x224002.length : Int) != (x224001.length : Int)) x222000 x222001 x222002 x222003 x222004 x224000 x224001 x224002 x224003 x224004))
def arboristref15_rule.j2 : Nat → Bool → List ByteArray → List ByteArray → List Int → List (S58) → List (S61) → Int → List Int → List ByteArray → ByteArray → Int → Option (Int)
 | 0, _, _, _, _, _, _, _, _, _, _, _ => none
 | k + 1, x86, x222000, x222001, x222002, x222003, x222004, x224000, x224001, x224002, x224003, x224004 => if x86 = true then (some 25) else (if x224004 < 0 then (some 24) else (if x224004 > (x222004.length : Int) then (some 24) else (some 0)))
end
def arboristref15_rule.f (k : Nat) (l0_0 : List ByteArray) (l0_1 : List ByteArray) (l0_2 : List Int) (l0_3 : List (S58)) (l0_4 : List (S61)) (a1 : Int) : Option (Int) := if 0 ≤ a1 then (if a1 < (l0_3.length : Int) then (if ((rd_T58 l0_3 a1).f0) < 0 then (arboristref15_rule.j0 k true l0_0 l0_1 l0_2 l0_3 l0_4 ((rd_T58 l0_3 a1).f0) ((rd_T58 l0_3 a1).f1) ((rd_T58 l0_3 a1).f2) ((rd_T58 l0_3 a1).f3) ((rd_T58 l0_3 a1).f4)) else (if ((rd_T58 l0_3 a1).f0) ≥ (l0_1.length : Int) then (arboristref15_rule.j0 k true l0_0 l0_1 l0_2 l0_3 l0_4 ((rd_T58 l0_3 a1).f0) ((rd_T58 l0_3 a1).f1) ((rd_T58 l0_3 a1).f2) ((rd_T58 l0_3 a1).f3) ((rd_T58 l0_3 a1).f4)) else (if a1 > 0 then (if 0 ≤ (wrap64 (a1 - 1)) then (if (wrap64 (a1 - 1)) < (l0_3.length : Int) then (if ((rd_T58 l0_3 a1).f0) < ((rd_T58 l0_3 (wrap64 (a1 - 1))).f0) then (arboristref15_rule.j0 k true l0_0 l0_1 l0_2 l0_3 l0_4 ((rd_T58 l0_3 a1).f0) ((rd_T58 l0_3 a1).f1) ((rd_T58 l0_3 a1).f2) ((rd_T58 l0_3 a1).f3) ((rd_T58 l0_3 a1).f4)) else (arboristref15_rule.j0 k (decide ((((rd_T58 l0_3 a1).f1).length : Int) > 32)) l0_0 l0_1 l0_2 l0_3 l0_4 ((rd_T58 l0_3 a1).f0) ((rd_T58 l0_3 a1).f1) ((rd_T58 l0_3 a1).f2) ((rd_T58 l0_3 a1).f3) ((rd_T58 l0_3 a1).f4))) else (none)) else (none)) else (arboristref15_rule.j0 k (decide ((((rd_T58 l0_3 a1).f1).length : Int) > 32)) l0_0 l0_1 l0_2 l0_3 l0_4 ((rd_T58 l0_3 a1).f0) ((rd_T58 l0_3 a1).f1) ((rd_T58 l0_3 a1).f2) ((rd_T58 l0_3 a1).f3) ((rd_T58 l0_3 a1).f4))))) else (none)) else (none)
theorem arboristref15_rule.mono_l : ∀ k, (∀ y0 y1 y2 y3 y4 y5 y6 y7 y8 y9 y10, LeO (arboristref15_rule.j0 k y0 y1 y2 y3 y4 y5 y6 y7 y8 y9 y10) (arboristref15_rule.j0 (k + 1) y0 y1 y2 y3 y4 y5 y6 y7 y8 y9 y10)) ∧ (∀ y0 y1 y2 y3 y4 y5 y6 y7 y8 y9 y10, LeO (arboristref15_rule.l0 k y0 y1 y2 y3 y4 y5 y6 y7 y8 y9 y10) (arboristref15_rule.l0 (k + 1) y0 y1 y2 y3 y4 y5 y6 y7 y8 y9 y10)) ∧ (∀ y0 y1 y2 y3 y4 y5 y6 y7 y8 y9 y10, LeO (arboristref15_rule.j2 k y0 y1 y2 y3 y4 y5 y6 y7 y8 y9 y10) (arboristref15_rule.j2 (k + 1) y0 y1 y2 y3 y4 y5 y6 y7 y8 y9 y10))
 | 0 => ⟨fun _ _ _ _ _ _ _ _ _ _ _ r h => by simp [arboristref15_rule.j0] at h, fun _ _ _ _ _ _ _ _ _ _ _ r h => by simp [arboristref15_rule.l0] at h, fun _ _ _ _ _ _ _ _ _ _ _ r h => by simp [arboristref15_rule.j2] at h⟩
 | k + 1 => by
  obtain ⟨ih0, ih1, ih2⟩ := arboristref15_rule.mono_l k; refine ⟨?_, ?_, ?_⟩
  ·intro y0 y1 y2 y3 y4 y5 y6 y7 y8 y9 y10
   (unfold arboristref15_rule.j0); exact qL
  ·intro y0 y1 y2 y3 y4 y5 y6 y7 y8 y9 y10
   (unfold arboristref15_rule.l0); exact qL
  ·intro y0 y1 y2 y3 y4 y5 y6 y7 y8 y9 y10
   (unfold arboristref15_rule.j2); exact qL
theorem arboristref15_rule.mono : ∀ a0 a1 a2 a3 a4 a5 k, LeO (arboristref15_rule.f k a0 a1 a2 a3 a4 a5) (arboristref15_rule.f (k + 1) a0 a1 a2 a3 a4 a5) := by
 (intro a0 a1 a2 a3 a4 a5 k); obtain ⟨ih0, ih1, ih2⟩ := arboristref15_rule.mono_l k; (unfold arboristref15_rule.f); exact qL
theorem arboristref15_rule.calls (k : Nat) (A0_0 : Option Addr) (c0_0 : Nat) (l0_0 : List ByteArray) (A0_1 : Option Addr) (c0_1 : Nat) (l0_1 : List ByteArray) (A0_2 : Option Addr) (c0_2 : Nat) (l0_2 : List Int) (A0_3 : Option Addr) (c0_3 : Nat) (l0_3 : List (S58)) (A0_4 : Option Addr) (c0_4 : Nat) (l0_4 : List (S61)) (a1 : Int) (r : Int) (w : World) (hr0_0 : Kd.C Kd.string w A0_0 l0_0.length l0_0) (hc0_0 : l0_0.length ≤ c0_0) (hr0_1 : Kd.C Kd.string w A0_1 l0_1.length l0_1) (hc0_1 : l0_1.length ≤ c0_1) (hr0_2 : Kd.C (Kd.int .i64) w A0_2 l0_2.length l0_2) (hc0_2 : l0_2.length ≤ c0_2) (hr0_3 : Kd.C k58 w A0_3 l0_3.length l0_3) (hc0_3 : l0_3.length ≤ c0_3) (hr0_4 : Kd.C k61 w A0_4 l0_4.length l0_4) (hc0_4 : l0_4.length ≤ c0_4) (h : arboristref15_rule.f k l0_0 l0_1 l0_2 l0_3 l0_4 a1 = some r) :
  Calls Tryd.prog 60 #[.agg #[.slice A0_0 l0_0.length c0_0, .slice A0_1 l0_1.length c0_1, .slice A0_2 l0_2.length c0_2, .slice A0_3 l0_3.length c0_3, .slice A0_4 l0_4.length c0_4], .int .i64 a1] w fun e w' => e = .returned (.int .i64 r) ∧ Below w.heap.size w w' := by
 have hu40 := Tryd.underlying40; have hu58 := Tryd.underlying58; have HR0_0 := qM hr0_0; have HC0_0 := qM hc0_0; clear hr0_0 hc0_0; have HR0_1 := qM hr0_1; have HC0_1 := qM hc0_1; clear hr0_1 hc0_1; have HR0_2 := qM hr0_2; have HC0_2 := qM hc0_2; clear hr0_2 hc0_2; have HR0_3 := qM hr0_3; have HC0_3 := qM hc0_3; clear hr0_3 hc0_3; have HR0_4 := qM hr0_4; have HC0_4 := qM hc0_4; clear hr0_4 hc0_4; have HB := qM (Below.refl w.heap.size w)
 have H : (if 0 ≤ a1 then (if a1 < (l0_3.length : Int) then (if ((rd_T58 l0_3 a1).f0) < 0 then (arboristref15_rule.j0 k true l0_0 l0_1 l0_2 l0_3 l0_4 ((rd_T58 l0_3 a1).f0) ((rd_T58 l0_3 a1).f1) ((rd_T58 l0_3 a1).f2) ((rd_T58 l0_3 a1).f3) ((rd_T58 l0_3 a1).f4)) else (if ((rd_T58 l0_3 a1).f0) ≥ (l0_1.length : Int) then (arboristref15_rule.j0 k true l0_0 l0_1 l0_2 l0_3 l0_4 ((rd_T58 l0_3 a1).f0) ((rd_T58 l0_3 a1).f1) ((rd_T58 l0_3 a1).f2) ((rd_T58 l0_3 a1).f3) ((rd_T58 l0_3 a1).f4)) else (if a1 > 0 then (if 0 ≤ (wrap64 (a1 - 1)) then (if (wrap64 (a1 - 1)) < (l0_3.length : Int) then (if ((rd_T58 l0_3 a1).f0) < ((rd_T58 l0_3 (wrap64 (a1 - 1))).f0) then (arboristref15_rule.j0 k true l0_0 l0_1 l0_2 l0_3 l0_4 ((rd_T58 l0_3 a1).f0) ((rd_T58 l0_3 a1).f1) ((rd_T58 l0_3 a1).f2) ((rd_T58 l0_3 a1).f3) ((rd_T58 l0_3 a1).f4)) else (arboristref15_rule.j0 k (decide ((((rd_T58 l0_3 a1).f1).length : Int) > 32)) l0_0 l0_1 l0_2 l0_3 l0_4 ((rd_T58 l0_3 a1).f0) ((rd_T58 l0_3 a1).f1) ((rd_T58 l0_3 a1).f2) ((rd_T58 l0_3 a1).f3) ((rd_T58 l0_3 a1).f4))) else (none)) else (none)) else (arboristref15_rule.j0 k (decide ((((rd_T58 l0_3 a1).f1).length : Int) > 32)) l0_0 l0_1 l0_2 l0_3 l0_4 ((rd_T58 l0_3 a1).f0) ((rd_T58 l0_3 a1).f1) ((rd_T58 l0_3 a1).f2) ((rd_T58 l0_3 a1).f3) ((rd_T58 l0_3 a1).f4))))) else (none)) else (none)) = some r := h
 clear h; refine iteN ?_ H; clear H; (intro c3b0 H); refine iteN ?_ H; clear H; (intro c4b0 H); have HC5 := qM H; clear H; (go_enter Tryd.func60, Tryd.ntmps60)
 go_upto_region 2 with (first | ((with_reducible refine gate_dst (N := 2) rfl ?_); (try (refine gate_guard (by rfl) ?_; dsimp only)); refine box_event ?hg (N := 2) ?hd (cs := #[.slice A0_0 l0_0.length c0_0, .slice A0_1 l0_1.length c0_1, .slice A0_2 l0_2.length c0_2, .slice A0_3 l0_3.length c0_3, .slice A0_4 l0_4.length c0_4]) (t := 40) ?hr ?_; (case hd | hg => rfl); (case hr => first | (go_simp; done) | (go_simp; rfl)); intro gb221 hg w6 hbox hb; have BK221 := qM (hbox); have GW221 := qM (qG hg); have GE221 := GW221; replace HB := qM (qP qF hb); clear hb hbox hg; have hz7 := bx5 BK221.out; have p222 : 0 ≤ (a1 : Int) := qo qX; have q222 : a1 < (l0_3.length : Int) := qo qX; obtain ⟨ad222, A222_1, c222_1, A222_2, c222_2, e222, hx222_0, hx222_1, hx222_2, hx222_3, hx222_4, hl222_1, hi222_1, hl222_2, hi222_2⟩ := at_T58 HR0_3.out a1 p222 q222; cases e222; replace hx222_0 := qv HB.out hx222_0; replace hx222_1 := qv HB.out hx222_1; replace hx222_2 := qv HB.out hx222_2; replace hx222_3 := qv HB.out hx222_3; replace hx222_4 := qv HB.out hx222_4; have HR222_1 := qM hi222_1; have HC222_1 := qM hl222_1; clear hi222_1 hl222_1; have HR222_2 := qM hi222_2; have HC222_2 := qM hl222_2; clear hi222_2 hl222_2; replace p222 := eq_true p222; replace q222 := eq_true q222) | ((with_reducible refine gate_dst (N := 5) rfl ?_); (try (refine gate_guard (by rfl) ?_; dsimp only)); refine box_event ?hg (N := 5) ?hd (cs := #[.int .i64 0, .slice none 0 0, .slice none 0 0, .string (⟨#[]⟩ : ByteArray), .int .i64 0]) (t := 58) ?hr ?_; (case hd | hg => rfl); (case hr => first | (go_simp; done) | (go_simp; rfl)); intro gb223 hg w8 hbox hb; have BK223 := qM (hbox); have GW223 := qM (qG hg); have GE223 := GW223; have NB221_223 := qM ((by rw [hg]; exact Nat.ne_of_lt (ql (g := gb221) qK) : gb221 ≠ gb223)); have NB223_221 := qM (Ne.symm NB221_223.out); replace BK221 := qM (qb (g := gb221) qK hb); replace HB := qM (qP qF hb); clear hb hbox hg; have hnb9 := NB223_221.out; have hnc9 := NB221_223.out; have hz10 := bx5 BK223.out))
 repeat (go_quiet (first | ((with_reducible refine gate_dst (N := 2) rfl ?_); (try (refine gate_guard (by rfl) ?_; dsimp only)); refine box_event ?hg (N := 2) ?hd (cs := #[.slice A0_0 l0_0.length c0_0, .slice A0_1 l0_1.length c0_1, .slice A0_2 l0_2.length c0_2, .slice A0_3 l0_3.length c0_3, .slice A0_4 l0_4.length c0_4]) (t := 40) ?hr ?_; (case hd | hg => rfl); (case hr => first | (go_simp; done) | (go_simp; rfl)); intro gb221 hg w6 hbox hb; have BK221 := qM (hbox); have GW221 := qM (qG hg); have GE221 := GW221; replace HB := qM (qP qF hb); clear hb hbox hg; have hz7 := bx5 BK221.out; have p222 : 0 ≤ (a1 : Int) := qo qX; have q222 : a1 < (l0_3.length : Int) := qo qX; obtain ⟨ad222, A222_1, c222_1, A222_2, c222_2, e222, hx222_0, hx222_1, hx222_2, hx222_3, hx222_4, hl222_1, hi222_1, hl222_2, hi222_2⟩ := at_T58 HR0_3.out a1 p222 q222; cases e222; replace hx222_0 := qv HB.out hx222_0; replace hx222_1 := qv HB.out hx222_1; replace hx222_2 := qv HB.out hx222_2; replace hx222_3 := qv HB.out hx222_3; replace hx222_4 := qv HB.out hx222_4; have HR222_1 := qM hi222_1; have HC222_1 := qM hl222_1; clear hi222_1 hl222_1; have HR222_2 := qM hi222_2; have HC222_2 := qM hl222_2; clear hi222_2 hl222_2; replace p222 := eq_true p222; replace q222 := eq_true q222) | ((with_reducible refine gate_dst (N := 5) rfl ?_); (try (refine gate_guard (by rfl) ?_; dsimp only)); refine box_event ?hg (N := 5) ?hd (cs := #[.int .i64 0, .slice none 0 0, .slice none 0 0, .string (⟨#[]⟩ : ByteArray), .int .i64 0]) (t := 58) ?hr ?_; (case hd | hg => rfl); (case hr => first | (go_simp; done) | (go_simp; rfl)); intro gb223 hg w8 hbox hb; have BK223 := qM (hbox); have GW223 := qM (qG hg); have GE223 := GW223; have NB221_223 := qM ((by rw [hg]; exact Nat.ne_of_lt (ql (g := gb221) qK) : gb221 ≠ gb223)); have NB223_221 := qM (Ne.symm NB221_223.out); replace BK221 := qM (qb (g := gb221) qK hb); replace HB := qM (qP qF hb); clear hb hbox hg; have hnb9 := NB223_221.out; have hnc9 := NB221_223.out; have hz10 := bx5 BK223.out)); go_upto_region 2 with (first | ((with_reducible refine gate_dst (N := 2) rfl ?_); (try (refine gate_guard (by rfl) ?_; dsimp only)); refine box_event ?hg (N := 2) ?hd (cs := #[.slice A0_0 l0_0.length c0_0, .slice A0_1 l0_1.length c0_1, .slice A0_2 l0_2.length c0_2, .slice A0_3 l0_3.length c0_3, .slice A0_4 l0_4.length c0_4]) (t := 40) ?hr ?_; (case hd | hg => rfl); (case hr => first | (go_simp; done) | (go_simp; rfl)); intro gb221 hg w6 hbox hb; have BK221 := qM (hbox); have GW221 := qM (qG hg); have GE221 := GW221; replace HB := qM (qP qF hb); clear hb hbox hg; have hz7 := bx5 BK221.out; have p222 : 0 ≤ (a1 : Int) := qo qX; have q222 : a1 < (l0_3.length : Int) := qo qX; obtain ⟨ad222, A222_1, c222_1, A222_2, c222_2, e222, hx222_0, hx222_1, hx222_2, hx222_3, hx222_4, hl222_1, hi222_1, hl222_2, hi222_2⟩ := at_T58 HR0_3.out a1 p222 q222; cases e222; replace hx222_0 := qv HB.out hx222_0; replace hx222_1 := qv HB.out hx222_1; replace hx222_2 := qv HB.out hx222_2; replace hx222_3 := qv HB.out hx222_3; replace hx222_4 := qv HB.out hx222_4; have HR222_1 := qM hi222_1; have HC222_1 := qM hl222_1; clear hi222_1 hl222_1; have HR222_2 := qM hi222_2; have HC222_2 := qM hl222_2; clear hi222_2 hl222_2; replace p222 := eq_true p222; replace q222 := eq_true q222) | ((with_reducible refine gate_dst (N := 5) rfl ?_); (try (refine gate_guard (by rfl) ?_; dsimp only)); refine box_event ?hg (N := 5) ?hd (cs := #[.int .i64 0, .slice none 0 0, .slice none 0 0, .string (⟨#[]⟩ : ByteArray), .int .i64 0]) (t := 58) ?hr ?_; (case hd | hg => rfl); (case hr => first | (go_simp; done) | (go_simp; rfl)); intro gb223 hg w8 hbox hb; have BK223 := qM (hbox); have GW223 := qM (qG hg); have GE223 := GW223; have NB221_223 := qM ((by rw [hg]; exact Nat.ne_of_lt (ql (g := gb221) qK) : gb221 ≠ gb223)); have NB223_221 := qM (Ne.symm NB221_223.out); replace BK221 := qM (qb (g := gb221) qK hb); replace HB := qM (qP qF hb); clear hb hbox hg; have hnb9 := NB223_221.out; have hnc9 := NB221_223.out; have hz10 := bx5 BK223.out)))
 (try simp only [Act.put, List.setIfInBounds_toArray, List.set_cons_zero, List.set_cons_succ])
 go_cut [45] (fun v45 wc => ∃ (kq : Nat) (x45_4 : Bool), v45 = .bool x45_4 ∧ Aside0 (arboristref15_rule.j0 kq x45_4 l0_0 l0_1 l0_2 l0_3 l0_4 ((rd_T58 l0_3 a1).f0) ((rd_T58 l0_3 a1).f1) ((rd_T58 l0_3 a1).f2) ((rd_T58 l0_3 a1).f3) ((rd_T58 l0_3 a1).f4) = some r) ∧ Aside0 (kq ≤ k) ∧ Aside0 (wc.heap[gb221]? = some (.cells #[(.slice A0_0 l0_0.length c0_0), (.slice A0_1 l0_1.length c0_1), (.slice A0_2 l0_2.length c0_2), (.slice (some ad222) l0_3.length c0_3), (.slice A0_4 l0_4.length c0_4)] 40 (0, 0))) ∧ Aside0 (wc.heap[gb223]? = some (.cells #[.int .i64 ((rd_T58 l0_3 a1).f0), (.slice A222_1 ((rd_T58 l0_3 a1).f1).length c222_1), (.slice A222_2 ((rd_T58 l0_3 a1).f2).length c222_2), .string ((rd_T58 l0_3 a1).f3), .int .i64 ((rd_T58 l0_3 a1).f4)] 58 (0, 0))) ∧ Aside0 (Below w.heap.size w wc))
 case first =>
  have H := HC5.out; clear HC5; have hnb12 := NB223_221.out; have hnc12 := NB221_223.out; have hz13 := bx5 BK223.out; (refine iteD ?_ ?_ H <;> clear H <;> intro c11b0 H)
  ·(first | rw [c11b0] | (simp only [i64_w, i32_w]; rw [c11b0]) | skip)
   have H' := qM H; clear H; go_wp2; (repeat (go_quiet (fail); try go_wp2)); go_meet
   case rel => exact ⟨_, (true), qV, H', ⟨by first | omega | exact Nat.le_refl _⟩, ⟨qK⟩, ⟨by (with_reducible repeat (first | refine qn ?_ _ | refine qd ?_ | refine qa ?_ _)); refine blk_put (cs := #[.int .i64 ((rd_T58 l0_3 a1).f0), .slice A222_1 ((rd_T58 l0_3 a1).f1).length c222_1, .slice A222_2 ((rd_T58 l0_3 a1).f2).length c222_2, .string ((rd_T58 l0_3 a1).f3), .int .i64 0]) ?_ 4 _ rfl; (with_reducible repeat (first | refine qn ?_ _ | refine qd ?_ | refine qa ?_ _)); refine blk_put (cs := #[.int .i64 ((rd_T58 l0_3 a1).f0), .slice A222_1 ((rd_T58 l0_3 a1).f1).length c222_1, .slice A222_2 ((rd_T58 l0_3 a1).f2).length c222_2, .string (⟨#[]⟩ : ByteArray), .int .i64 0]) ?_ 3 _ rfl; (with_reducible repeat (first | refine qn ?_ _ | refine qd ?_ | refine qa ?_ _)); refine blk_put (cs := #[.int .i64 ((rd_T58 l0_3 a1).f0), .slice A222_1 ((rd_T58 l0_3 a1).f1).length c222_1, .slice none 0 0, .string (⟨#[]⟩ : ByteArray), .int .i64 0]) ?_ 2 _ rfl; (with_reducible repeat (first | refine qn ?_ _ | refine qd ?_ | refine qa ?_ _)); refine blk_put (cs := #[.int .i64 ((rd_T58 l0_3 a1).f0), .slice none 0 0, .slice none 0 0, .string (⟨#[]⟩ : ByteArray), .int .i64 0]) ?_ 1 _ rfl; (with_reducible repeat (first | refine qn ?_ _ | refine qd ?_ | refine qa ?_ _)); refine blk_put (cs := #[.int .i64 0, .slice none 0 0, .slice none 0 0, .string (⟨#[]⟩ : ByteArray), .int .i64 0]) ?_ 0 _ rfl; (with_reducible repeat (first | refine qn ?_ _ | refine qd ?_ | refine qa ?_ _)); exact BK223.out⟩, ⟨qF⟩⟩
  ·(first | rw [c11b0] | (simp only [i64_w, i32_w]; rw [c11b0]) | skip)
   have hz17 := bx5 BK221.out; (refine iteR ?_ ?_ H <;> clear H <;> intro c14 H)
   ·have c14b0 : decide ((l0_1.length : Int) ≤ ((rd_T58 l0_3 a1).f0)) = true := decide_eq_true c14
    clear c14; have H' := qM H; clear H; go_wp2; (repeat (go_quiet (fail); try go_wp2)); go_meet
    case rel => exact ⟨_, (true), qV, H', ⟨by first | omega | exact Nat.le_refl _⟩, ⟨qK⟩, ⟨by (with_reducible repeat (first | refine qn ?_ _ | refine qd ?_ | refine qa ?_ _)); refine blk_put (cs := #[.int .i64 ((rd_T58 l0_3 a1).f0), .slice A222_1 ((rd_T58 l0_3 a1).f1).length c222_1, .slice A222_2 ((rd_T58 l0_3 a1).f2).length c222_2, .string ((rd_T58 l0_3 a1).f3), .int .i64 0]) ?_ 4 _ rfl; (with_reducible repeat (first | refine qn ?_ _ | refine qd ?_ | refine qa ?_ _)); refine blk_put (cs := #[.int .i64 ((rd_T58 l0_3 a1).f0), .slice A222_1 ((rd_T58 l0_3 a1).f1).length c222_1, .slice A222_2 ((rd_T58 l0_3 a1).f2).length c222_2, .string (⟨#[]⟩ : ByteArray), .int .i64 0]) ?_ 3 _ rfl; (with_reducible repeat (first | refine qn ?_ _ | refine qd ?_ | refine qa ?_ _)); refine blk_put (cs := #[.int .i64 ((rd_T58 l0_3 a1).f0), .slice A222_1 ((rd_T58 l0_3 a1).f1).length c222_1, .slice none 0 0, .string (⟨#[]⟩ : ByteArray), .int .i64 0]) ?_ 2 _ rfl; (with_reducible repeat (first | refine qn ?_ _ | refine qd ?_ | refine qa ?_ _)); refine blk_put (cs := #[.int .i64 ((rd_T58 l0_3 a1).f0), .slice none 0 0, .slice none 0 0, .string (⟨#[]⟩ : ByteArray), .int .i64 0]) ?_ 1 _ rfl; (with_reducible repeat (first | refine qn ?_ _ | refine qd ?_ | refine qa ?_ _)); refine blk_put (cs := #[.int .i64 0, .slice none 0 0, .slice none 0 0, .string (⟨#[]⟩ : ByteArray), .int .i64 0]) ?_ 0 _ rfl; (with_reducible repeat (first | refine qn ?_ _ | refine qd ?_ | refine qa ?_ _)); exact BK223.out⟩, ⟨qF⟩⟩
   ·have c14b0 : decide ((l0_1.length : Int) ≤ ((rd_T58 l0_3 a1).f0)) = false := decide_eq_false c14
    clear c14; (refine iteR ?_ ?_ H <;> clear H <;> intro c18 H)
    ·have c18b0 : decide (0 < a1) = true := decide_eq_true c18
     clear c18; obtain ⟨ji19, hji19⟩ : ∃ j_ : Int, (wrap64 (a1 - 1)) = j_ := ⟨_, rfl⟩; (replace H : (if 0 ≤ (ji19) then (if (ji19) < (l0_3.length : Int) then (if ((rd_T58 l0_3 a1).f0) < ((rd_T58 l0_3 (ji19)).f0) then (arboristref15_rule.j0 k true l0_0 l0_1 l0_2 l0_3 l0_4 ((rd_T58 l0_3 a1).f0) ((rd_T58 l0_3 a1).f1) ((rd_T58 l0_3 a1).f2) ((rd_T58 l0_3 a1).f3) ((rd_T58 l0_3 a1).f4)) else (arboristref15_rule.j0 k (decide ((((rd_T58 l0_3 a1).f1).length : Int) > 32)) l0_0 l0_1 l0_2 l0_3 l0_4 ((rd_T58 l0_3 a1).f0) ((rd_T58 l0_3 a1).f1) ((rd_T58 l0_3 a1).f2) ((rd_T58 l0_3 a1).f3) ((rd_T58 l0_3 a1).f4))) else (none)) else (none)) = some r := by first | (rw [hji19] at H; exact H) | (simp only [hji19] at H ⊢; exact H)); have hji19w : (IntKind.i64.wrap (a1 - 1)) = ji19 := (i64_w _).trans hji19; refine iteN ?_ H; clear H; (intro c20b0 H); refine iteN ?_ H; clear H; (intro c21b0 H); have p224 : 0 ≤ ((ji19) : Int) := qo qX; have q224 : (ji19) < (l0_3.length : Int) := qo qX; obtain ⟨ad224, A224_1, c224_1, A224_2, c224_2, e224, hx224_0, hx224_1, hx224_2, hx224_3, hx224_4, hl224_1, hi224_1, hl224_2, hi224_2⟩ := at_T58 HR0_3.out (ji19) p224 q224; obtain rfl : ad222 = ad224 := (by injection e224); have hn224_0 : ad222.block ≠ gb223 := Nat.ne_of_lt (Nat.lt_of_lt_of_le (by have := qB _ _ hx224_0; first | rwa [add_block] at this | exact this) GW223.out); have hn224_1 : ad222.block ≠ gb223 := Nat.ne_of_lt (Nat.lt_of_lt_of_le (by have := qB _ _ hx224_0; first | rwa [add_block] at this | exact this) GW223.out); have hn224_2 : ad222.block ≠ gb223 := Nat.ne_of_lt (Nat.lt_of_lt_of_le (by have := qB _ _ hx224_0; first | rwa [add_block] at this | exact this) GW223.out); have hn224_3 : ad222.block ≠ gb223 := Nat.ne_of_lt (Nat.lt_of_lt_of_le (by have := qB _ _ hx224_0; first | rwa [add_block] at this | exact this) GW223.out); have hn224_4 : ad222.block ≠ gb223 := Nat.ne_of_lt (Nat.lt_of_lt_of_le (by have := qB _ _ hx224_0; first | rwa [add_block] at this | exact this) GW223.out); replace hx224_0 := qv HB.out hx224_0; replace hx224_1 := qv HB.out hx224_1; replace hx224_2 := qv HB.out hx224_2; replace hx224_3 := qv HB.out hx224_3
     replace hx224_4 := qv HB.out hx224_4; have HR224_1 := qM hi224_1; have HC224_1 := qM hl224_1; clear hi224_1 hl224_1; have HR224_2 := qM hi224_2; have HC224_2 := qM hl224_2; clear hi224_2 hl224_2
     have fr_ := fun (a_ : Addr) (h_ : a_.block ≠ gb223) (W_ : World) (u_ : Value) (e_ : W_.cell? a_ = some u_) => (cell_far (p := ⟨gb223, 4, none⟩) h_ (.int .i64 ((rd_T58 l0_3 a1).f4))).trans ((cell_far (p := ⟨gb223, 3, none⟩) h_ (.string ((rd_T58 l0_3 a1).f3))).trans ((cell_far (p := ⟨gb223, 2, none⟩) h_ (.slice A222_2 ((rd_T58 l0_3 a1).f2).length c222_2)).trans ((cell_far (p := ⟨gb223, 1, none⟩) h_ (.slice A222_1 ((rd_T58 l0_3 a1).f1).length c222_1)).trans ((cell_far (p := ⟨gb223, 0, none⟩) h_ (.int .i64 ((rd_T58 l0_3 a1).f0))).trans e_)))); replace hx224_0 := fr_ _ (by first | (rw [add_block]; exact hn224_0) | (show (Addr.add _ _).block ≠ _; rw [add_block]; exact hn224_0) | exact hn224_0) _ _ hx224_0; replace hx224_1 := fr_ _ (by first | (rw [add_block]; exact hn224_0) | (show (Addr.add _ _).block ≠ _; rw [add_block]; exact hn224_0) | exact hn224_0) _ _ hx224_1; replace hx224_2 := fr_ _ (by first | (rw [add_block]; exact hn224_0) | (show (Addr.add _ _).block ≠ _; rw [add_block]; exact hn224_0) | exact hn224_0) _ _ hx224_2; replace hx224_3 := fr_ _ (by first | (rw [add_block]; exact hn224_0) | (show (Addr.add _ _).block ≠ _; rw [add_block]; exact hn224_0) | exact hn224_0) _ _ hx224_3; replace hx224_4 := fr_ _ (by first | (rw [add_block]; exact hn224_0) | (show (Addr.add _ _).block ≠ _; rw [add_block]; exact hn224_0) | exact hn224_0) _ _ hx224_4; clear fr_
     (try have hy224_0 := fun (n_ : Nat) => (show (((((((w8.drewN n_).setCell ⟨gb223, 0, none⟩ (.int .i64 ((rd_T58 l0_3 a1).f0))).setCell ⟨gb223, 1, none⟩ (.slice A222_1 ((rd_T58 l0_3 a1).f1).length c222_1)).setCell ⟨gb223, 2, none⟩ (.slice A222_2 ((rd_T58 l0_3 a1).f2).length c222_2)).setCell ⟨gb223, 3, none⟩ (.string ((rd_T58 l0_3 a1).f3))).setCell ⟨gb223, 4, none⟩ (.int .i64 ((rd_T58 l0_3 a1).f4)))).cell? _ = some _ from hx224_0)); clear hn224_0 hn224_1 hn224_2 hn224_3 hn224_4; replace p224 := eq_true p224; replace q224 := eq_true q224; (refine iteD ?_ ?_ H <;> clear H <;> intro c22b0 H)
     ·have H' := qM H
      clear H; go_wp2; (repeat (go_quiet (fail); try go_wp2)); go_meet
      case rel => exact ⟨_, (true), qV, H', ⟨by first | omega | exact Nat.le_refl _⟩, ⟨qK⟩, ⟨by (with_reducible repeat (first | refine qn ?_ _ | refine qd ?_ | refine qa ?_ _)); refine blk_put (cs := #[.int .i64 ((rd_T58 l0_3 a1).f0), .slice A222_1 ((rd_T58 l0_3 a1).f1).length c222_1, .slice A222_2 ((rd_T58 l0_3 a1).f2).length c222_2, .string ((rd_T58 l0_3 a1).f3), .int .i64 0]) ?_ 4 _ rfl; (with_reducible repeat (first | refine qn ?_ _ | refine qd ?_ | refine qa ?_ _)); refine blk_put (cs := #[.int .i64 ((rd_T58 l0_3 a1).f0), .slice A222_1 ((rd_T58 l0_3 a1).f1).length c222_1, .slice A222_2 ((rd_T58 l0_3 a1).f2).length c222_2, .string (⟨#[]⟩ : ByteArray), .int .i64 0]) ?_ 3 _ rfl; (with_reducible repeat (first | refine qn ?_ _ | refine qd ?_ | refine qa ?_ _)); refine blk_put (cs := #[.int .i64 ((rd_T58 l0_3 a1).f0), .slice A222_1 ((rd_T58 l0_3 a1).f1).length c222_1, .slice none 0 0, .string (⟨#[]⟩ : ByteArray), .int .i64 0]) ?_ 2 _ rfl; (with_reducible repeat (first | refine qn ?_ _ | refine qd ?_ | refine qa ?_ _)); refine blk_put (cs := #[.int .i64 ((rd_T58 l0_3 a1).f0), .slice none 0 0, .slice none 0 0, .string (⟨#[]⟩ : ByteArray), .int .i64 0]) ?_ 1 _ rfl; (with_reducible repeat (first | refine qn ?_ _ | refine qd ?_ | refine qa ?_ _)); refine blk_put (cs := #[.int .i64 0, .slice none 0 0, .slice none 0 0, .string (⟨#[]⟩ : ByteArray), .int .i64 0]) ?_ 0 _ rfl; (with_reducible repeat (first | refine qn ?_ _ | refine qd ?_ | refine qa ?_ _)); exact BK223.out⟩, ⟨qF⟩⟩
     ·have H' := qM H
      clear H; go_wp2; (repeat (go_quiet (fail); try go_wp2)); go_meet
      case rel => exact ⟨_, (decide ((((rd_T58 l0_3 a1).f1).length : Int) > 32)), qV, H', ⟨by first | omega | exact Nat.le_refl _⟩, ⟨qK⟩, ⟨by (with_reducible repeat (first | refine qn ?_ _ | refine qd ?_ | refine qa ?_ _)); refine blk_put (cs := #[.int .i64 ((rd_T58 l0_3 a1).f0), .slice A222_1 ((rd_T58 l0_3 a1).f1).length c222_1, .slice A222_2 ((rd_T58 l0_3 a1).f2).length c222_2, .string ((rd_T58 l0_3 a1).f3), .int .i64 0]) ?_ 4 _ rfl; (with_reducible repeat (first | refine qn ?_ _ | refine qd ?_ | refine qa ?_ _)); refine blk_put (cs := #[.int .i64 ((rd_T58 l0_3 a1).f0), .slice A222_1 ((rd_T58 l0_3 a1).f1).length c222_1, .slice A222_2 ((rd_T58 l0_3 a1).f2).length c222_2, .string (⟨#[]⟩ : ByteArray), .int .i64 0]) ?_ 3 _ rfl; (with_reducible repeat (first | refine qn ?_ _ | refine qd ?_ | refine qa ?_ _)); refine blk_put (cs := #[.int .i64 ((rd_T58 l0_3 a1).f0), .slice A222_1 ((rd_T58 l0_3 a1).f1).length c222_1, .slice none 0 0, .string (⟨#[]⟩ : ByteArray), .int .i64 0]) ?_ 2 _ rfl; (with_reducible repeat (first | refine qn ?_ _ | refine qd ?_ | refine qa ?_ _)); refine blk_put (cs := #[.int .i64 ((rd_T58 l0_3 a1).f0), .slice none 0 0, .slice none 0 0, .string (⟨#[]⟩ : ByteArray), .int .i64 0]) ?_ 1 _ rfl; (with_reducible repeat (first | refine qn ?_ _ | refine qd ?_ | refine qa ?_ _)); refine blk_put (cs := #[.int .i64 0, .slice none 0 0, .slice none 0 0, .string (⟨#[]⟩ : ByteArray), .int .i64 0]) ?_ 0 _ rfl; (with_reducible repeat (first | refine qn ?_ _ | refine qd ?_ | refine qa ?_ _)); exact BK223.out⟩, ⟨qF⟩⟩
    ·have c18b0 : decide (0 < a1) = false := decide_eq_false c18
     clear c18; have H' := qM H; clear H; go_wp2; (repeat (go_quiet (fail); try go_wp2)); go_meet
     case rel => exact ⟨_, (decide ((((rd_T58 l0_3 a1).f1).length : Int) > 32)), qV, H', ⟨by first | omega | exact Nat.le_refl _⟩, ⟨qK⟩, ⟨by (with_reducible repeat (first | refine qn ?_ _ | refine qd ?_ | refine qa ?_ _)); refine blk_put (cs := #[.int .i64 ((rd_T58 l0_3 a1).f0), .slice A222_1 ((rd_T58 l0_3 a1).f1).length c222_1, .slice A222_2 ((rd_T58 l0_3 a1).f2).length c222_2, .string ((rd_T58 l0_3 a1).f3), .int .i64 0]) ?_ 4 _ rfl; (with_reducible repeat (first | refine qn ?_ _ | refine qd ?_ | refine qa ?_ _)); refine blk_put (cs := #[.int .i64 ((rd_T58 l0_3 a1).f0), .slice A222_1 ((rd_T58 l0_3 a1).f1).length c222_1, .slice A222_2 ((rd_T58 l0_3 a1).f2).length c222_2, .string (⟨#[]⟩ : ByteArray), .int .i64 0]) ?_ 3 _ rfl; (with_reducible repeat (first | refine qn ?_ _ | refine qd ?_ | refine qa ?_ _)); refine blk_put (cs := #[.int .i64 ((rd_T58 l0_3 a1).f0), .slice A222_1 ((rd_T58 l0_3 a1).f1).length c222_1, .slice none 0 0, .string (⟨#[]⟩ : ByteArray), .int .i64 0]) ?_ 2 _ rfl; (with_reducible repeat (first | refine qn ?_ _ | refine qd ?_ | refine qa ?_ _)); refine blk_put (cs := #[.int .i64 ((rd_T58 l0_3 a1).f0), .slice none 0 0, .slice none 0 0, .string (⟨#[]⟩ : ByteArray), .int .i64 0]) ?_ 1 _ rfl; (with_reducible repeat (first | refine qn ?_ _ | refine qd ?_ | refine qa ?_ _)); refine blk_put (cs := #[.int .i64 0, .slice none 0 0, .slice none 0 0, .string (⟨#[]⟩ : ByteArray), .int .i64 0]) ?_ 0 _ rfl; (with_reducible repeat (first | refine qn ?_ _ | refine qd ?_ | refine qa ?_ _)); exact BK223.out⟩, ⟨qF⟩⟩
 case rest =>
  clear HC5; (try clear c1); (try clear c2); (try clear p2); (try clear q2); (try clear hx2); (try clear c3); (try clear c3b0); (try clear c4); (try clear c4b0); (try clear c6); (try clear p6); (try clear c9); (try clear c11); (try clear c11b0); (try clear c12); (try clear c14); (try clear c14b0); (try clear c15); (try clear c18); (try clear c18b0); (try clear c20); (try clear c20b0); (try clear c21); (try clear c21b0); (try clear c22); (try clear c22b0); (try clear p22); (try clear q22); (try clear hx22); (try clear c23); (try clear c26); (try clear c29); (try clear hz10); (try clear hz13); (try clear hz17); (try clear hz7); (try clear hx222_0 hx222_1 hx222_2 hx222_3 hx222_4); (try clear hx224_0 hx224_1 hx224_2 hx224_3 hx224_4); (try clear p222); (try clear p224); (try clear q222); (try clear q224); obtain ⟨kq, x45_4, rfl, HA, HJ4, BK221, BK223, HB⟩ := hcut
  cases kq with
  | zero => exact absurd HA.out (by simp [arboristref15_rule.j0])
  | succ kj4 =>
   have H := HA.out; clear HA; (simp only [arboristref15_rule.j0] at H); (refine iteR ?_ ?_ H <;> clear H <;> intro c32 H)
   ·subst c32
    obtain rfl := Option.some.inj H; go_wp2; (repeat (go_quiet (fail); try go_wp2)); (go_ret); exact ⟨qE, qF⟩
   ·replace c32 := Bool.eq_false_iff.mpr c32
    subst c32; have H' := qM H; clear H; go_wp2; (repeat (go_quiet (fail); try go_wp2))
    go_loopg [6] kj4 (fun kq v6 w' => ∃ (x6_2 : Int), v6 = .int .i64 x6_2 ∧ Aside0 (arboristref15_rule.l0 kq x6_2 l0_0 l0_1 l0_2 l0_3 l0_4 ((rd_T58 l0_3 a1).f0) ((rd_T58 l0_3 a1).f1) ((rd_T58 l0_3 a1).f2) ((rd_T58 l0_3 a1).f3) ((rd_T58 l0_3 a1).f4) = some r) ∧ Aside0 (kq ≤ kj4) ∧ Aside0 (w'.heap[gb221]? = some (.cells #[(.slice A0_0 l0_0.length c0_0), (.slice A0_1 l0_1.length c0_1), (.slice A0_2 l0_2.length c0_2), (.slice (some ad222) l0_3.length c0_3), (.slice A0_4 l0_4.length c0_4)] 40 (0, 0))) ∧ Aside0 (w'.heap[gb223]? = some (.cells #[.int .i64 ((rd_T58 l0_3 a1).f0), (.slice A222_1 ((rd_T58 l0_3 a1).f1).length c222_1), (.slice A222_2 ((rd_T58 l0_3 a1).f2).length c222_2), .string ((rd_T58 l0_3 a1).f3), .int .i64 ((rd_T58 l0_3 a1).f4)] 58 (0, 0))) ∧ Aside0 (Below w.heap.size w w'))
    case atStart => exact ⟨(0), qV, H', ⟨Nat.le_refl _⟩, ⟨qK⟩, ⟨qK⟩, ⟨qF⟩⟩
    case round =>
     (clear H'); (try clear c1); (try clear c2); (try clear p2); (try clear q2); (try clear hx2); (try clear c3); (try clear c3b0); (try clear c4); (try clear c4b0); (try clear c6); (try clear p6); (try clear c9); (try clear c11); (try clear c11b0); (try clear c12); (try clear c14); (try clear c14b0); (try clear c15); (try clear c18); (try clear c18b0); (try clear c20); (try clear c20b0); (try clear c21); (try clear c21b0); (try clear c22); (try clear c22b0); (try clear p22); (try clear q22); (try clear hx22); (try clear c23); (try clear c26); (try clear c29); (try clear c32); (try clear hz10); (try clear hz13); (try clear hz17); (try clear hz7); (try clear hx222_0 hx222_1 hx222_2 hx222_3 hx222_4); (try clear hx224_0 hx224_1 hx224_2 hx224_3 hx224_4); (try clear p2); (try clear p22); (try clear p222); (try clear p224); (try clear p6); (try clear q2); (try clear q22); (try clear q222); (try clear q224); obtain ⟨x6_2, rfl, HA, HK2, BK221, BK223, HB⟩ := hrel
     cases gk with
     | zero => exact absurd HA.out (by simp [arboristref15_rule.l0])
     | succ k2 =>
      have H := HA.out; clear HA; (simp only [arboristref15_rule.l0] at H); have hnb38 := NB223_221.out; have hnc38 := NB221_223.out; have hz39 := bx5 BK223.out; (refine iteD ?_ ?_ H <;> clear H <;> intro c33b0 H)
      ·refine iteN ?_ H
       clear H; (intro c34b0 H); replace H := Option.bind_eq_some_iff.mp H; obtain ⟨t226, A350, H⟩ := H; replace H : (if t226 = true then (if (rd ((rd_T58 l0_3 a1).f1) x6_2) = 0 then (some 21) else (if (rd ((rd_T58 l0_3 a1).f1) x6_2) = 1 then (some 21) else (if (rd ((rd_T58 l0_3 a1).f1) x6_2) = (-1) then (some 21) else (arboristref15_rule.l0 k2 (wrap64 (x6_2 + 1)) l0_0 l0_1 l0_2 l0_3 l0_4 ((rd_T58 l0_3 a1).f0) ((rd_T58 l0_3 a1).f1) ((rd_T58 l0_3 a1).f2) ((rd_T58 l0_3 a1).f3) ((rd_T58 l0_3 a1).f4))))) else (some 21)) = some r := H; have A35 := qM A350; clear A350; have p225 : 0 ≤ (x6_2 : Int) := qo qX; have q225 : x6_2 < (((rd_T58 l0_3 a1).f1).length : Int) := qo qX; obtain ⟨ad225, e225, hx225_0⟩ := Kd.at_int HR222_1.out x6_2 p225 q225
       cases e225
       replace hx225_0 := qv HB.out hx225_0; replace p225 := eq_true p225; replace q225 := eq_true q225; have hz40 := bx5 BK221.out; (refine iteR ?_ ?_ H <;> clear H <;> intro c36 H)
       ·subst c36
        refine iteE ?_ ?_ H <;> clear H <;> intro c37b0 c37b1 H
        ·obtain rfl := Option.some.inj H
         go_wp2_with (first | (go_at_call 62; (with_reducible refine (arboristref15_Is.calls _ _ l0_0 _ _ l0_1 _ _ l0_2 _ _ l0_3 _ _ l0_4 (rd ((rd_T58 l0_3 a1).f1) x6_2) true _ ?side1 ?side2 ?side3 ?side4 ?side5 ?side6 ?side7 ?side8 ?side9 ?side10 A35.out).mono ?_); (case side1 | side3 | side5 | side7 | side9 => exact qY); (case side2 | side4 | side6 | side8 | side10 => exact qO); rintro e w41 ⟨rfl, hb⟩; replace BK221 := qM (qb (g := gb221) qK hb); replace BK223 := qM (qb (g := gb223) qK hb); replace HB := qM (qP qF hb); (try clear hb); (try clear hb2); (try clear hk); (try clear hi)))
         repeat (go_quiet (first | (go_at_call 62; (with_reducible refine (arboristref15_Is.calls _ _ l0_0 _ _ l0_1 _ _ l0_2 _ _ l0_3 _ _ l0_4 (rd ((rd_T58 l0_3 a1).f1) x6_2) true _ ?side1 ?side2 ?side3 ?side4 ?side5 ?side6 ?side7 ?side8 ?side9 ?side10 A35.out).mono ?_); (case side1 | side3 | side5 | side7 | side9 => exact qY); (case side2 | side4 | side6 | side8 | side10 => exact qO); rintro e w41 ⟨rfl, hb⟩; replace BK221 := qM (qb (g := gb221) qK hb); replace BK223 := qM (qb (g := gb223) qK hb); replace HB := qM (qP qF hb); (try clear hb); (try clear hb2); (try clear hk); (try clear hi))); try go_wp2_with (first | (go_at_call 62; (with_reducible refine (arboristref15_Is.calls _ _ l0_0 _ _ l0_1 _ _ l0_2 _ _ l0_3 _ _ l0_4 (rd ((rd_T58 l0_3 a1).f1) x6_2) true _ ?side1 ?side2 ?side3 ?side4 ?side5 ?side6 ?side7 ?side8 ?side9 ?side10 A35.out).mono ?_); (case side1 | side3 | side5 | side7 | side9 => exact qY); (case side2 | side4 | side6 | side8 | side10 => exact qO); rintro e w41 ⟨rfl, hb⟩; replace BK221 := qM (qb (g := gb221) qK hb); replace BK223 := qM (qb (g := gb223) qK hb); replace HB := qM (qP qF hb); (try clear hb); (try clear hb2); (try clear hk); (try clear hi))))
         (go_ret); exact ⟨qE, qF⟩
        ·intro c37
         refine iteE ?_ ?_ H <;> clear H <;> intro c42b0 c42b1 H
         ·obtain rfl := Option.some.inj H
          go_wp2_with (first | (go_at_call 62; (with_reducible refine (arboristref15_Is.calls _ _ l0_0 _ _ l0_1 _ _ l0_2 _ _ l0_3 _ _ l0_4 (rd ((rd_T58 l0_3 a1).f1) x6_2) true _ ?side1 ?side2 ?side3 ?side4 ?side5 ?side6 ?side7 ?side8 ?side9 ?side10 A35.out).mono ?_); (case side1 | side3 | side5 | side7 | side9 => exact qY); (case side2 | side4 | side6 | side8 | side10 => exact qO); rintro e w46 ⟨rfl, hb⟩; replace BK221 := qM (qb (g := gb221) qK hb); replace BK223 := qM (qb (g := gb223) qK hb); replace HB := qM (qP qF hb); (try clear hb); (try clear hb2); (try clear hk); (try clear hi)))
          repeat (go_quiet (first | (go_at_call 62; (with_reducible refine (arboristref15_Is.calls _ _ l0_0 _ _ l0_1 _ _ l0_2 _ _ l0_3 _ _ l0_4 (rd ((rd_T58 l0_3 a1).f1) x6_2) true _ ?side1 ?side2 ?side3 ?side4 ?side5 ?side6 ?side7 ?side8 ?side9 ?side10 A35.out).mono ?_); (case side1 | side3 | side5 | side7 | side9 => exact qY); (case side2 | side4 | side6 | side8 | side10 => exact qO); rintro e w46 ⟨rfl, hb⟩; replace BK221 := qM (qb (g := gb221) qK hb); replace BK223 := qM (qb (g := gb223) qK hb); replace HB := qM (qP qF hb); (try clear hb); (try clear hb2); (try clear hk); (try clear hi))); try go_wp2_with (first | (go_at_call 62; (with_reducible refine (arboristref15_Is.calls _ _ l0_0 _ _ l0_1 _ _ l0_2 _ _ l0_3 _ _ l0_4 (rd ((rd_T58 l0_3 a1).f1) x6_2) true _ ?side1 ?side2 ?side3 ?side4 ?side5 ?side6 ?side7 ?side8 ?side9 ?side10 A35.out).mono ?_); (case side1 | side3 | side5 | side7 | side9 => exact qY); (case side2 | side4 | side6 | side8 | side10 => exact qO); rintro e w46 ⟨rfl, hb⟩; replace BK221 := qM (qb (g := gb221) qK hb); replace BK223 := qM (qb (g := gb223) qK hb); replace HB := qM (qP qF hb); (try clear hb); (try clear hb2); (try clear hk); (try clear hi))))
          (go_ret); exact ⟨qE, qF⟩
         ·intro c42
          refine iteE ?_ ?_ H <;> clear H <;> intro c47b0 c47b1 H
          ·obtain rfl := Option.some.inj H
           go_wp2_with (first | (go_at_call 62; (with_reducible refine (arboristref15_Is.calls _ _ l0_0 _ _ l0_1 _ _ l0_2 _ _ l0_3 _ _ l0_4 (rd ((rd_T58 l0_3 a1).f1) x6_2) true _ ?side1 ?side2 ?side3 ?side4 ?side5 ?side6 ?side7 ?side8 ?side9 ?side10 A35.out).mono ?_); (case side1 | side3 | side5 | side7 | side9 => exact qY); (case side2 | side4 | side6 | side8 | side10 => exact qO); rintro e w51 ⟨rfl, hb⟩; replace BK221 := qM (qb (g := gb221) qK hb); replace BK223 := qM (qb (g := gb223) qK hb); replace HB := qM (qP qF hb); (try clear hb); (try clear hb2); (try clear hk); (try clear hi)))
           repeat (go_quiet (first | (go_at_call 62; (with_reducible refine (arboristref15_Is.calls _ _ l0_0 _ _ l0_1 _ _ l0_2 _ _ l0_3 _ _ l0_4 (rd ((rd_T58 l0_3 a1).f1) x6_2) true _ ?side1 ?side2 ?side3 ?side4 ?side5 ?side6 ?side7 ?side8 ?side9 ?side10 A35.out).mono ?_); (case side1 | side3 | side5 | side7 | side9 => exact qY); (case side2 | side4 | side6 | side8 | side10 => exact qO); rintro e w51 ⟨rfl, hb⟩; replace BK221 := qM (qb (g := gb221) qK hb); replace BK223 := qM (qb (g := gb223) qK hb); replace HB := qM (qP qF hb); (try clear hb); (try clear hb2); (try clear hk); (try clear hi))); try go_wp2_with (first | (go_at_call 62; (with_reducible refine (arboristref15_Is.calls _ _ l0_0 _ _ l0_1 _ _ l0_2 _ _ l0_3 _ _ l0_4 (rd ((rd_T58 l0_3 a1).f1) x6_2) true _ ?side1 ?side2 ?side3 ?side4 ?side5 ?side6 ?side7 ?side8 ?side9 ?side10 A35.out).mono ?_); (case side1 | side3 | side5 | side7 | side9 => exact qY); (case side2 | side4 | side6 | side8 | side10 => exact qO); rintro e w51 ⟨rfl, hb⟩; replace BK221 := qM (qb (g := gb221) qK hb); replace BK223 := qM (qb (g := gb223) qK hb); replace HB := qM (qP qF hb); (try clear hb); (try clear hb2); (try clear hk); (try clear hi))))
           (go_ret); exact ⟨qE, qF⟩
          ·intro c47
           have H' := qM H; clear H
           go_wp2_with (first | (go_at_call 62; (with_reducible refine (arboristref15_Is.calls _ _ l0_0 _ _ l0_1 _ _ l0_2 _ _ l0_3 _ _ l0_4 (rd ((rd_T58 l0_3 a1).f1) x6_2) true _ ?side1 ?side2 ?side3 ?side4 ?side5 ?side6 ?side7 ?side8 ?side9 ?side10 A35.out).mono ?_); (case side1 | side3 | side5 | side7 | side9 => exact qY); (case side2 | side4 | side6 | side8 | side10 => exact qO); rintro e w55 ⟨rfl, hb⟩; replace BK221 := qM (qb (g := gb221) qK hb); replace BK223 := qM (qb (g := gb223) qK hb); replace HB := qM (qP qF hb); (try clear hb); (try clear hb2); (try clear hk); (try clear hi)))
           repeat (go_quiet (first | (go_at_call 62; (with_reducible refine (arboristref15_Is.calls _ _ l0_0 _ _ l0_1 _ _ l0_2 _ _ l0_3 _ _ l0_4 (rd ((rd_T58 l0_3 a1).f1) x6_2) true _ ?side1 ?side2 ?side3 ?side4 ?side5 ?side6 ?side7 ?side8 ?side9 ?side10 A35.out).mono ?_); (case side1 | side3 | side5 | side7 | side9 => exact qY); (case side2 | side4 | side6 | side8 | side10 => exact qO); rintro e w55 ⟨rfl, hb⟩; replace BK221 := qM (qb (g := gb221) qK hb); replace BK223 := qM (qb (g := gb223) qK hb); replace HB := qM (qP qF hb); (try clear hb); (try clear hb2); (try clear hk); (try clear hi))); try go_wp2_with (first | (go_at_call 62; (with_reducible refine (arboristref15_Is.calls _ _ l0_0 _ _ l0_1 _ _ l0_2 _ _ l0_3 _ _ l0_4 (rd ((rd_T58 l0_3 a1).f1) x6_2) true _ ?side1 ?side2 ?side3 ?side4 ?side5 ?side6 ?side7 ?side8 ?side9 ?side10 A35.out).mono ?_); (case side1 | side3 | side5 | side7 | side9 => exact qY); (case side2 | side4 | side6 | side8 | side10 => exact qO); rintro e w55 ⟨rfl, hb⟩; replace BK221 := qM (qb (g := gb221) qK hb); replace BK223 := qM (qb (g := gb223) qK hb); replace HB := qM (qP qF hb); (try clear hb); (try clear hb2); (try clear hk); (try clear hi))))
           go_roundg k2
           case measure => have := HJ4.out; have := HK2.out; omega
           case rel => exact ⟨(wrap64 (x6_2 + 1)), qV, H', ⟨by have := HJ4.out; have := HK2.out; omega⟩, ⟨qK⟩, ⟨qK⟩, ⟨qF⟩⟩
       ·replace c36 := Bool.eq_false_iff.mpr c36
        subst c36; obtain rfl := Option.some.inj H
        go_wp2_with (first | (go_at_call 62; (with_reducible refine (arboristref15_Is.calls _ _ l0_0 _ _ l0_1 _ _ l0_2 _ _ l0_3 _ _ l0_4 (rd ((rd_T58 l0_3 a1).f1) x6_2) false _ ?side1 ?side2 ?side3 ?side4 ?side5 ?side6 ?side7 ?side8 ?side9 ?side10 A35.out).mono ?_); (case side1 | side3 | side5 | side7 | side9 => exact qY); (case side2 | side4 | side6 | side8 | side10 => exact qO); rintro e w59 ⟨rfl, hb⟩; replace BK221 := qM (qb (g := gb221) qK hb); replace BK223 := qM (qb (g := gb223) qK hb); replace HB := qM (qP qF hb); (try clear hb); (try clear hb2); (try clear hk); (try clear hi)))
        repeat (go_quiet (first | (go_at_call 62; (with_reducible refine (arboristref15_Is.calls _ _ l0_0 _ _ l0_1 _ _ l0_2 _ _ l0_3 _ _ l0_4 (rd ((rd_T58 l0_3 a1).f1) x6_2) false _ ?side1 ?side2 ?side3 ?side4 ?side5 ?side6 ?side7 ?side8 ?side9 ?side10 A35.out).mono ?_); (case side1 | side3 | side5 | side7 | side9 => exact qY); (case side2 | side4 | side6 | side8 | side10 => exact qO); rintro e w59 ⟨rfl, hb⟩; replace BK221 := qM (qb (g := gb221) qK hb); replace BK223 := qM (qb (g := gb223) qK hb); replace HB := qM (qP qF hb); (try clear hb); (try clear hb2); (try clear hk); (try clear hi))); try go_wp2_with (first | (go_at_call 62; (with_reducible refine (arboristref15_Is.calls _ _ l0_0 _ _ l0_1 _ _ l0_2 _ _ l0_3 _ _ l0_4 (rd ((rd_T58 l0_3 a1).f1) x6_2) false _ ?side1 ?side2 ?side3 ?side4 ?side5 ?side6 ?side7 ?side8 ?side9 ?side10 A35.out).mono ?_); (case side1 | side3 | side5 | side7 | side9 => exact qY); (case side2 | side4 | side6 | side8 | side10 => exact qO); rintro e w59 ⟨rfl, hb⟩; replace BK221 := qM (qb (g := gb221) qK hb); replace BK223 := qM (qb (g := gb223) qK hb); replace HB := qM (qP qF hb); (try clear hb); (try clear hb2); (try clear hk); (try clear hi))))
        (go_ret); exact ⟨qE, qF⟩
      ·have HC60 := qM H
       clear H; (go_upto_region 10 with (fail)); (repeat (go_quiet (fail); go_upto_region 10 with (fail)))
       go_cut [86] (fun v86 wc => ∃ (kq : Nat) (x86_59 : Bool), v86 = .bool x86_59 ∧ Aside0 (arboristref15_rule.j2 kq x86_59 l0_0 l0_1 l0_2 l0_3 l0_4 ((rd_T58 l0_3 a1).f0) ((rd_T58 l0_3 a1).f1) ((rd_T58 l0_3 a1).f2) ((rd_T58 l0_3 a1).f3) ((rd_T58 l0_3 a1).f4) = some r) ∧ Aside0 (kq ≤ k2) ∧ Aside0 (wc.heap[gb221]? = some (.cells #[(.slice A0_0 l0_0.length c0_0), (.slice A0_1 l0_1.length c0_1), (.slice A0_2 l0_2.length c0_2), (.slice (some ad222) l0_3.length c0_3), (.slice A0_4 l0_4.length c0_4)] 40 (0, 0))) ∧ Aside0 (wc.heap[gb223]? = some (.cells #[.int .i64 ((rd_T58 l0_3 a1).f0), (.slice A222_1 ((rd_T58 l0_3 a1).f1).length c222_1), (.slice A222_2 ((rd_T58 l0_3 a1).f2).length c222_2), .string ((rd_T58 l0_3 a1).f3), .int .i64 ((rd_T58 l0_3 a1).f4)] 58 (0, 0))) ∧ Aside0 (Below w.heap.size w wc))
       case first =>
        have H := HC60.out; clear HC60; have hnb64 := NB223_221.out; have hnc64 := NB221_223.out; have hz65 := bx5 BK223.out; (refine iteE ?_ ?_ H <;> clear H <;> intro c63b0 c63b1 H)
        ·(first | rw [c63b0] | (simp only [i64_w, i32_w]; rw [c63b0]) | skip)
         have H' := qM H; clear H; go_wp2; (repeat (go_quiet (fail); try go_wp2)); go_meet
         case rel => exact ⟨_, (false), qV, H', ⟨by have := HJ4.out; have := HK2.out; first | omega | exact Nat.le_refl _⟩, ⟨qK⟩, ⟨qK⟩, ⟨qF⟩⟩
        ·intro c63
         (have c63b2 : ¬ (((rd_T58 l0_3 a1).f2) = []) := fun h_ => c63 (by rw [h_]; rfl)); (first | rw [c63b0] | (simp only [i64_w, i32_w]; rw [c63b0]) | skip); have H' := qM H; clear H; go_wp2; (repeat (go_quiet (fail); try go_wp2)); go_meet
         case rel => exact ⟨_, (((((rd_T58 l0_3 a1).f2).length : Int) != (((rd_T58 l0_3 a1).f1).length : Int))), qV, H', ⟨by have := HJ4.out; have := HK2.out; first | omega | exact Nat.le_refl _⟩, ⟨qK⟩, ⟨qK⟩, ⟨qF⟩⟩
       case rest =>
        clear HC60; (try clear c1); (try clear c2); (try clear p2); (try clear q2); (try clear hx2); (try clear c3); (try clear c3b0); (try clear c4); (try clear c4b0); (try clear c5); (try clear c6); (try clear p6); (try clear c9); (try clear c11); (try clear c11b0); (try clear c12); (try clear c14); (try clear c14b0); (try clear c15); (try clear c18); (try clear c18b0); (try clear c20); (try clear c20b0); (try clear c21); (try clear c21b0); (try clear c22); (try clear c22b0); (try clear p22); (try clear q22); (try clear hx22); (try clear c23); (try clear c26); (try clear c29); (try clear c32); (try clear c33); (try clear c33b0); (try clear c34); (try clear c34b0); (try clear c36); (try clear c37); (try clear c37b0); (try clear c37b1); (try clear c38); (try clear c42); (try clear c42b0); (try clear c42b1); (try clear c43); (try clear c47); (try clear c47b0); (try clear c47b1); (try clear c48); (try clear c52); (try clear c56); (try clear c61); (try clear c63); (try clear c63b0); (try clear c63b1); (try clear c63b2); (try clear c64); (try clear p64); (try clear c66); (try clear hz10); (try clear hz13); (try clear hz17); (try clear hz39); (try clear hz40); (try clear hz39); (try clear hz65); (try clear hz7); (try clear hx222_0 hx222_1 hx222_2 hx222_3 hx222_4); (try clear hx224_0 hx224_1 hx224_2 hx224_3 hx224_4); (try clear hx225_0); (try clear p2); (try clear p22); (try clear p222); (try clear p224); (try clear p225); (try clear p6); (try clear q2); (try clear q22); (try clear q222); (try clear q224); (try clear q225); obtain ⟨kq, x86_59, rfl, HA, HJ59, BK221, BK223, HB⟩ := hcut
        cases kq with
        | zero => exact absurd HA.out (by simp [arboristref15_rule.j2])
        | succ kj59 =>
         have H := HA.out; clear HA; (simp only [arboristref15_rule.j2] at H); (refine iteR ?_ ?_ H <;> clear H <;> intro c68 H)
         ·subst c68
          obtain rfl := Option.some.inj H; go_wp2; (repeat (go_quiet (fail); try go_wp2)); (go_ret); exact ⟨qE, qF⟩
         ·replace c68 := Bool.eq_false_iff.mpr c68
          subst c68; have hnb70 := NB223_221.out; have hnc70 := NB221_223.out; have hz71 := bx5 BK223.out; (refine iteD ?_ ?_ H <;> clear H <;> intro c69b0 H)
          ·obtain rfl := Option.some.inj H
           go_wp2; (repeat (go_quiet (fail); try go_wp2)); (go_ret); exact ⟨qE, qF⟩
          ·have hz75 := bx5 BK221.out
           refine iteR ?_ ?_ H <;> clear H <;> intro c72 H
           ·have c72b0 : decide ((l0_4.length : Int) < ((rd_T58 l0_3 a1).f4)) = true := decide_eq_true c72
            clear c72; obtain rfl := Option.some.inj H; go_wp2; (repeat (go_quiet (fail); try go_wp2)); (go_ret); exact ⟨qE, qF⟩
           ·have c72b0 : decide ((l0_4.length : Int) < ((rd_T58 l0_3 a1).f4)) = false := decide_eq_false c72
            clear c72; obtain rfl := Option.some.inj H; go_wp2; (repeat (go_quiet (fail); try go_wp2)); (go_ret); exact ⟨qE, qF⟩
end
end Go.Proofs.YtphmgaijkdflnaaDoor.H
end
