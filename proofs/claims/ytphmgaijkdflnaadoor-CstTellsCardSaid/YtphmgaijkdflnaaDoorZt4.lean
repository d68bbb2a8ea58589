/- A part (4 of 6) of this proof: For every tree that the guards let in, CstTells returns true: Text, Len, Size, Leaves and Clean of package cst agree with the reference. -/
import Derived.Lib.OthersKept
import Derived.Lib.RuneBytes
import Derived.Lib.RuneLoops
import Derived.Lib.RuneCountTail
import Derived.Lib.TrimU
import Derived.Lib.QuoteLoop
import Derived.Laws.RangeAny
import Derived.Test.YtphmgaijkdflnaaDoorZt3
section
namespace Go.Proofs.YtphmgaijkdflnaaDoor.H
open Go.RowKit Go.Proofs.YtphmgaijkdflnaaDoorW.PrintWords Go.Proofs.YtphmgaijkdflnaaDoorW.PrintLast Go.Proofs.YtphmgaijkdflnaaDoorW.PrintMore
attribute [local go_sem] max2_int min2_int max_two min_two max_three min_three max_four min_four
set_option linter.unusedVariables false
set_option linter.unusedSimpArgs false
mutual
def grammar_rule.j0 : Nat → Bool → List ByteArray → List ByteArray → List Int → List (S58) → List (S61) → Int → List Int → List ByteArray → ByteArray → Int → Option (Int)
 | 0, _, _, _, _, _, _, _, _, _, _, _ => none
 | k + 1, x26, x176000, x176001, x176002, x176003, x176004, x177000, x177001, x177002, x177003, x177004 => if x26 = true then (some 22) else ((slices_ContainsFunc_grammar_rule_1.f k x177001 x176000 x176001 x176002 x176003 x176004).bind fun t178 => (if t178 = true then (some 21) else (if (x177002.length : Int) = 0 then (grammar_rule.j1 k false x176000 x176001 x176002 x176003 x176004 x177000 x177001 x177002 x177003 x177004) else (grammar_rule.j1 k ((x177002.length : Int) != (x177001.length : Int)) x176000 x176001 x176002 x176003 x176004 x177000 x177001 x177002 x177003 x177004))))
def grammar_rule.j1 : Nat → Bool → List ByteArray → List ByteArray → List Int → List (S58) → List (S61) → Int → List Int → List ByteArray → ByteArray → Int → Option (Int)
 | 0, _, _, _, _, _, _, _, _, _, _, _ => none
 | k + 1, x43, x176000, x176001, x176002, x176003, x176004, x177000, x177001, x177002, x177003, x177004 => if x43 = true then (some 25) else ((grammar_within.f x177004 0 (x176004.length : Int)).bind fun t179 => (if t179 = true then (some 0) else (some 24)))
end
def grammar_rule.f (k : Nat) (l0_0 : List ByteArray) (l0_1 : List ByteArray) (l0_2 : List Int) (l0_3 : List (S58)) (l0_4 : List (S61)) (a1_0 : Int) (l1_1 : List Int) (l1_2 : List ByteArray) (a1_3 : ByteArray) (a1_4 : Int) (a2 : Int) : Option (Int) := (grammar_within.f a1_0 0 (wrap64 ((l0_1.length : Int) - 1))).bind fun t177 => (if t177 = true then (if a1_0 < a2 then (grammar_rule.j0 k true l0_0 l0_1 l0_2 l0_3 l0_4 a1_0 l1_1 l1_2 a1_3 a1_4) else (grammar_rule.j0 k (decide ((l1_1.length : Int) > 32)) l0_0 l0_1 l0_2 l0_3 l0_4 a1_0 l1_1 l1_2 a1_3 a1_4)) else (grammar_rule.j0 k true l0_0 l0_1 l0_2 l0_3 l0_4 a1_0 l1_1 l1_2 a1_3 a1_4))
theorem grammar_rule.mono_l : ∀ k, (∀ y0 y1 y2 y3 y4 y5 y6 y7 y8 y9 y10, LeO (grammar_rule.j0 k y0 y1 y2 y3 y4 y5 y6 y7 y8 y9 y10) (grammar_rule.j0 (k + 1) y0 y1 y2 y3 y4 y5 y6 y7 y8 y9 y10)) ∧ (∀ y0 y1 y2 y3 y4 y5 y6 y7 y8 y9 y10, LeO (grammar_rule.j1 k y0 y1 y2 y3 y4 y5 y6 y7 y8 y9 y10) (grammar_rule.j1 (k + 1) y0 y1 y2 y3 y4 y5 y6 y7 y8 y9 y10))
 | 0 => ⟨fun _ _ _ _ _ _ _ _ _ _ _ r h => by simp [grammar_rule.j0] at h, fun _ _ _ _ _ _ _ _ _ _ _ r h => by simp [grammar_rule.j1] at h⟩
 | k + 1 => by
  (obtain ⟨ih0, ih1⟩ := grammar_rule.mono_l k); (refine ⟨?_, ?_⟩)
  ·intro y0 y1 y2 y3 y4 y5 y6 y7 y8 y9 y10
   unfold grammar_rule.j0
   repeat' first
   | (with_reducible exact ih0 _ _ _ _ _ _ _ _ _ _ _)
   | (with_reducible exact ih1 _ _ _ _ _ _ _ _ _ _ _)
   | (with_reducible exact slices_ContainsFunc_grammar_rule_1.mono _ _ _ _ _ _ _)
   | (with_reducible exact LeO.refl _)
   | (with_reducible exact LeO.none _)
   | (with_reducible refine LeO.ite ?_ ?_)
   | (with_reducible refine LeO.bind ?_ (fun _ => ?_))
   | exact ih0 _ _ _ _ _ _ _ _ _ _ _
   | exact ih1 _ _ _ _ _ _ _ _ _ _ _
   | exact slices_ContainsFunc_grammar_rule_1.mono _ _ _ _ _ _ _
   | exact LeO.none _
   | refine LeO.ite ?_ ?_
   | refine LeO.bind ?_ (fun _ => ?_)
  ·intro y0 y1 y2 y3 y4 y5 y6 y7 y8 y9 y10
   unfold grammar_rule.j1
   repeat' first
   | (with_reducible exact ih0 _ _ _ _ _ _ _ _ _ _ _)
   | (with_reducible exact ih1 _ _ _ _ _ _ _ _ _ _ _)
   | (with_reducible exact slices_ContainsFunc_grammar_rule_1.mono _ _ _ _ _ _ _)
   | (with_reducible exact LeO.refl _)
   | (with_reducible exact LeO.none _)
   | (with_reducible refine LeO.ite ?_ ?_)
   | (with_reducible refine LeO.bind ?_ (fun _ => ?_))
   | exact ih0 _ _ _ _ _ _ _ _ _ _ _
   | exact ih1 _ _ _ _ _ _ _ _ _ _ _
   | exact slices_ContainsFunc_grammar_rule_1.mono _ _ _ _ _ _ _
   | exact LeO.none _
   | refine LeO.ite ?_ ?_
   | refine LeO.bind ?_ (fun _ => ?_)
theorem grammar_rule.mono : ∀ a0 a1 a2 a3 a4 a5 a6 a7 a8 a9 a10 k, LeO (grammar_rule.f k a0 a1 a2 a3 a4 a5 a6 a7 a8 a9 a10) (grammar_rule.f (k + 1) a0 a1 a2 a3 a4 a5 a6 a7 a8 a9 a10) := by
 (intro a0 a1 a2 a3 a4 a5 a6 a7 a8 a9 a10 k); (obtain ⟨ih0, ih1⟩ := grammar_rule.mono_l k); (unfold grammar_rule.f)
 repeat' first
   | (with_reducible exact ih0 _ _ _ _ _ _ _ _ _ _ _)
   | (with_reducible exact ih1 _ _ _ _ _ _ _ _ _ _ _)
   | (with_reducible exact slices_ContainsFunc_grammar_rule_1.mono _ _ _ _ _ _ _)
   | (with_reducible exact LeO.refl _)
   | (with_reducible exact LeO.none _)
   | (with_reducible refine LeO.ite ?_ ?_)
   | (with_reducible refine LeO.bind ?_ (fun _ => ?_))
   | exact ih0 _ _ _ _ _ _ _ _ _ _ _
   | exact ih1 _ _ _ _ _ _ _ _ _ _ _
   | exact slices_ContainsFunc_grammar_rule_1.mono _ _ _ _ _ _ _
   | exact LeO.none _
   | refine LeO.ite ?_ ?_
   | refine LeO.bind ?_ (fun _ => ?_)
set_option maxHeartbeats 8000000 in
set_option maxRecDepth 100000 in
theorem grammar_rule.calls (k : Nat) (A0_0 : Option Addr) (c0_0 : Nat) (l0_0 : List ByteArray) (A0_1 : Option Addr) (c0_1 : Nat) (l0_1 : List ByteArray) (A0_2 : Option Addr) (c0_2 : Nat) (l0_2 : List Int) (A0_3 : Option Addr) (c0_3 : Nat) (l0_3 : List (S58)) (A0_4 : Option Addr) (c0_4 : Nat) (l0_4 : List (S61)) (a1_0 : Int) (A1_1 : Option Addr) (c1_1 : Nat) (l1_1 : List Int) (A1_2 : Option Addr) (c1_2 : Nat) (l1_2 : List ByteArray) (a1_3 : ByteArray) (a1_4 : Int) (a2 : Int) (r : Int) (w : World) (hr0_0 : Kd.C Kd.string w A0_0 l0_0.length l0_0) (hc0_0 : l0_0.length ≤ c0_0) (hr0_1 : Kd.C Kd.string w A0_1 l0_1.length l0_1) (hc0_1 : l0_1.length ≤ c0_1) (hr0_2 : Kd.C (Kd.int .i64) w A0_2 l0_2.length l0_2) (hc0_2 : l0_2.length ≤ c0_2) (hr0_3 : Kd.C k58 w A0_3 l0_3.length l0_3) (hc0_3 : l0_3.length ≤ c0_3) (hr0_4 : Kd.C k61 w A0_4 l0_4.length l0_4) (hc0_4 : l0_4.length ≤ c0_4) (hr1_1 : Kd.C (Kd.int .i64) w A1_1 l1_1.length l1_1) (hc1_1 : l1_1.length ≤ c1_1) (hr1_2 : Kd.C Kd.string w A1_2 l1_2.length l1_2) (hc1_2 : l1_2.length ≤ c1_2) (h : grammar_rule.f k l0_0 l0_1 l0_2 l0_3 l0_4 a1_0 l1_1 l1_2 a1_3 a1_4 a2 = some r) :
  Calls Tryd.prog 54 #[.agg #[.slice A0_0 l0_0.length c0_0, .slice A0_1 l0_1.length c0_1, .slice A0_2 l0_2.length c0_2, .slice A0_3 l0_3.length c0_3, .slice A0_4 l0_4.length c0_4], .agg #[.int .i64 a1_0, .slice A1_1 l1_1.length c1_1, .slice A1_2 l1_2.length c1_2, .string a1_3, .int .i64 a1_4], .int .i64 a2] w fun e w' => e = .returned (.int .i64 r) ∧ Below w.heap.size w w' := by
 (have hu40 := Tryd.underlying40); (have hu58 := Tryd.underlying58); (have HR0_0 := qM hr0_0); (have HC0_0 := qM hc0_0); clear hr0_0 hc0_0; (have HR0_1 := qM hr0_1); (have HC0_1 := qM hc0_1); clear hr0_1 hc0_1; (have HR0_2 := qM hr0_2); (have HC0_2 := qM hc0_2); clear hr0_2 hc0_2; (have HR0_3 := qM hr0_3); (have HC0_3 := qM hc0_3); clear hr0_3 hc0_3; (have HR0_4 := qM hr0_4); (have HC0_4 := qM hc0_4); clear hr0_4 hc0_4; (have HR1_1 := qM hr1_1); (have HC1_1 := qM hc1_1); clear hr1_1 hc1_1; (have HR1_2 := qM hr1_2); (have HC1_2 := qM hc1_2); clear hr1_2 hc1_2; (have HB := qM (Below.refl w.heap.size w)); (have H : ((grammar_within.f a1_0 0 (wrap64 ((l0_1.length : Int) - 1))).bind fun t177 => (if t177 = true then (if a1_0 < a2 then (grammar_rule.j0 k true l0_0 l0_1 l0_2 l0_3 l0_4 a1_0 l1_1 l1_2 a1_3 a1_4) else (grammar_rule.j0 k (decide ((l1_1.length : Int) > 32)) l0_0 l0_1 l0_2 l0_3 l0_4 a1_0 l1_1 l1_2 a1_3 a1_4)) else (grammar_rule.j0 k true l0_0 l0_1 l0_2 l0_3 l0_4 a1_0 l1_1 l1_2 a1_3 a1_4))) = some r := h); clear h; (have HC4 := qM H); clear H; (go_enter Tryd.func54, Tryd.ntmps54)
 go_upto_region 1 with (first | ((with_reducible refine gate_dst (N := 3) rfl ?_); (try (refine gate_guard (by rfl) ?_; dsimp only)); refine box_event ?hg (N := 3) ?hd (cs := #[.slice A0_0 l0_0.length c0_0, .slice A0_1 l0_1.length c0_1, .slice A0_2 l0_2.length c0_2, .slice A0_3 l0_3.length c0_3, .slice A0_4 l0_4.length c0_4]) (t := 40) ?hr ?_; (case hd => rfl); (case hg => rfl); (case hr => first | (go_simp; done) | (go_simp; rfl)); intro gb175 hg w5 hbox hb; have n0_ := qM (qP qF hb); have n1_ := qM (hbox); have n2_ := qM ((by rw [hg]; exact (qZ qF) : w.heap.size ≤ gb175)); have n3_ := qM ((by rw [hg]; exact (qZ qF) : w.heap.size ≤ gb175)); clear HB; have HB := n0_; have BK175 := n1_; have GW175 := n2_; have GE175 := n3_; clear n0_ n1_ n2_ n3_; clear hb hbox hg) | ((with_reducible refine gate_dst (N := 4) rfl ?_); (try (refine gate_guard (by rfl) ?_; dsimp only)); refine box_event ?hg (N := 4) ?hd (cs := #[.int .i64 a1_0, .slice A1_1 l1_1.length c1_1, .slice A1_2 l1_2.length c1_2, .string a1_3, .int .i64 a1_4]) (t := 58) ?hr ?_; (case hd => rfl); (case hg => rfl); (case hr => first | (go_simp; done) | (go_simp; rfl)); intro gb176 hg w6 hbox hb; have n0_ := qM (qb (g := gb175) qK hb); have n1_ := qM (qP qF hb); have n2_ := qM (hbox); have n3_ := qM ((by rw [hg]; exact (qZ qF) : w.heap.size ≤ gb176)); have n4_ := qM ((by rw [hg]; exact (qZ qF) : w.heap.size ≤ gb176)); have n5_ := qM ((by rw [hg]; exact Nat.ne_of_lt (ql (g := gb175) qK) : gb175 ≠ gb176)); have n6_ := qM ((by rw [hg]; exact Nat.ne_of_gt (ql (g := gb175) qK) : gb176 ≠ gb175)); clear BK175; clear HB; have BK175 := n0_; have HB := n1_; have BK176 := n2_; have GW176 := n3_; have GE176 := n4_; have NB175_176 := n5_; have NB176_175 := n6_; clear n0_ n1_ n2_ n3_ n4_ n5_ n6_; clear hb hbox hg))
 ((try simp only [Act.put, List.setIfInBounds_toArray, List.set_cons_zero, List.set_cons_succ])); (go_cut [26] (fun v26 wc => ∃ (kq : Nat) (x26_3 : Bool), v26 = .bool x26_3 ∧ Aside0 (grammar_rule.j0 kq x26_3 l0_0 l0_1 l0_2 l0_3 l0_4 a1_0 l1_1 l1_2 a1_3 a1_4 = some r) ∧ Aside0 (kq ≤ k) ∧ Aside0 (wc.heap[gb175]? = some (.cells #[(.slice A0_0 l0_0.length c0_0), (.slice A0_1 l0_1.length c0_1), (.slice A0_2 l0_2.length c0_2), (.slice A0_3 l0_3.length c0_3), (.slice A0_4 l0_4.length c0_4)] 40 (0, 0))) ∧ Aside0 (wc.heap[gb176]? = some (.cells #[.int .i64 a1_0, (.slice A1_1 l1_1.length c1_1), (.slice A1_2 l1_2.length c1_2), .string a1_3, .int .i64 a1_4] 58 (0, 0))) ∧ Aside0 (Below w.heap.size w wc)))
 case first =>
  (have H := HC4.out); clear HC4; (replace H := Option.bind_eq_some_iff.mp H); (obtain ⟨t177, A70, H⟩ := H); (replace H : (if t177 = true then (if a1_0 < a2 then (grammar_rule.j0 k true l0_0 l0_1 l0_2 l0_3 l0_4 a1_0 l1_1 l1_2 a1_3 a1_4) else (grammar_rule.j0 k (decide ((l1_1.length : Int) > 32)) l0_0 l0_1 l0_2 l0_3 l0_4 a1_0 l1_1 l1_2 a1_3 a1_4)) else (grammar_rule.j0 k true l0_0 l0_1 l0_2 l0_3 l0_4 a1_0 l1_1 l1_2 a1_3 a1_4)) = some r := H); (have A7 := qM A70); clear A70; (by_cases c8 : t177 = true)
  ·subst c8
   (have H1 : (if a1_0 < a2 then (grammar_rule.j0 k true l0_0 l0_1 l0_2 l0_3 l0_4 a1_0 l1_1 l1_2 a1_3 a1_4) else (grammar_rule.j0 k (decide ((l1_1.length : Int) > 32)) l0_0 l0_1 l0_2 l0_3 l0_4 a1_0 l1_1 l1_2 a1_3 a1_4)) = some r := by rw [if_pos rfl] at H; exact H); clear H; (have H := H1); clear H1; (by_cases c9 : a1_0 < a2)
   ·rw [if_pos c9] at H
    (have c9b0 : decide (a1_0 < a2) = true := decide_eq_true c9); clear c9; ((first | rw [c9b0] | (simp only [i64_w, i32_w]; rw [c9b0]) | skip)); (have H' := qM H); clear H; (have hnb10 := NB176_175.out); (have hnc10 := NB175_176.out); (obtain ⟨hcz11_0, hcz11_1, hcz11_2, hcz11_3, hcz11_4, hfz11_0, hfz11_1, hfz11_2, hfz11_3, hfz11_4⟩ := bx5 BK176.out); (obtain ⟨hcz12_0, hcz12_1, hcz12_2, hcz12_3, hcz12_4, hfz12_0, hfz12_1, hfz12_2, hfz12_3, hfz12_4⟩ := bx5 BK175.out); (go_wp2_with (first | ((with_reducible refine gate_callee (f := 55) rfl ?_); refine goesL_ (some 13) rfl rfl Tryd.func55 (by kernel_rfl) rfl #[.int .i64 a1_0, .int .i64 0, .int .i64 (wrap64 ((l0_1.length : Int) - 1))] rfl (by (try simp only [List.map_toArray, List.map_cons, List.map_nil]); first | done | rfl | (simp only [List.length_drop, List.length_take]; rfl)) ?_; (with_reducible refine (grammar_within.calls a1_0 0 (wrap64 ((l0_1.length : Int) - 1)) true _ A7.out).mono ?_); rintro e w' ⟨rfl, ⟨nd, rfl⟩⟩; refine ⟨_, rfl, ?_⟩))); go_meet
    case rel => exact ⟨_, (true), qV, H', ⟨by first | omega | exact Nat.le_refl _⟩, ⟨qK⟩, ⟨qK⟩, ⟨qF⟩⟩
   ·rw [if_neg c9] at H
    (have c9b0 : decide (a1_0 < a2) = false := decide_eq_false c9); clear c9; ((first | rw [c9b0] | (simp only [i64_w, i32_w]; rw [c9b0]) | skip)); (have H' := qM H); clear H; (have hnb13 := NB176_175.out); (have hnc13 := NB175_176.out); (obtain ⟨hcz14_0, hcz14_1, hcz14_2, hcz14_3, hcz14_4, hfz14_0, hfz14_1, hfz14_2, hfz14_3, hfz14_4⟩ := bx5 BK176.out); (obtain ⟨hcz15_0, hcz15_1, hcz15_2, hcz15_3, hcz15_4, hfz15_0, hfz15_1, hfz15_2, hfz15_3, hfz15_4⟩ := bx5 BK175.out); (go_wp2_with (first | ((with_reducible refine gate_callee (f := 55) rfl ?_); refine goesL_ (some 13) rfl rfl Tryd.func55 (by kernel_rfl) rfl #[.int .i64 a1_0, .int .i64 0, .int .i64 (wrap64 ((l0_1.length : Int) - 1))] rfl (by (try simp only [List.map_toArray, List.map_cons, List.map_nil]); first | done | rfl | (simp only [List.length_drop, List.length_take]; rfl)) ?_; (with_reducible refine (grammar_within.calls a1_0 0 (wrap64 ((l0_1.length : Int) - 1)) true _ A7.out).mono ?_); rintro e w' ⟨rfl, ⟨nd, rfl⟩⟩; refine ⟨_, rfl, ?_⟩))); go_meet
    case rel => exact ⟨_, (decide ((l1_1.length : Int) > 32)), qV, H', ⟨by first | omega | exact Nat.le_refl _⟩, ⟨qK⟩, ⟨qK⟩, ⟨qF⟩⟩
  ·replace c8 := Bool.eq_false_iff.mpr c8
   subst c8; (have H1 : (grammar_rule.j0 k true l0_0 l0_1 l0_2 l0_3 l0_4 a1_0 l1_1 l1_2 a1_3 a1_4) = some r := by rw [if_neg (show ¬ (false = true) by decide)] at H; exact H); clear H; (have H := H1); clear H1; (have H' := qM H); clear H; (have hnb16 := NB176_175.out); (have hnc16 := NB175_176.out); (obtain ⟨hcz17_0, hcz17_1, hcz17_2, hcz17_3, hcz17_4, hfz17_0, hfz17_1, hfz17_2, hfz17_3, hfz17_4⟩ := bx5 BK176.out); (obtain ⟨hcz18_0, hcz18_1, hcz18_2, hcz18_3, hcz18_4, hfz18_0, hfz18_1, hfz18_2, hfz18_3, hfz18_4⟩ := bx5 BK175.out); (go_wp2_with (first | ((with_reducible refine gate_callee (f := 55) rfl ?_); refine goesL_ (some 13) rfl rfl Tryd.func55 (by kernel_rfl) rfl #[.int .i64 a1_0, .int .i64 0, .int .i64 (wrap64 ((l0_1.length : Int) - 1))] rfl (by (try simp only [List.map_toArray, List.map_cons, List.map_nil]); first | done | rfl | (simp only [List.length_drop, List.length_take]; rfl)) ?_; (with_reducible refine (grammar_within.calls a1_0 0 (wrap64 ((l0_1.length : Int) - 1)) false _ A7.out).mono ?_); rintro e w' ⟨rfl, ⟨nd, rfl⟩⟩; refine ⟨_, rfl, ?_⟩))); go_meet
   case rel => exact ⟨_, (true), qV, H', ⟨by first | omega | exact Nat.le_refl _⟩, ⟨qK⟩, ⟨qK⟩, ⟨qF⟩⟩
 case rest =>
  clear HC4; (try clear c1); (try clear p2); (try clear c5); (try clear p6); (try clear c8); (try clear c9); (try clear c9b0); (try clear c10); (try clear c13); (try clear c16); (try clear hcz11_0 hcz11_1 hcz11_2 hcz11_3 hcz11_4); (try clear hcz12_0 hcz12_1 hcz12_2 hcz12_3 hcz12_4); (try clear hcz14_0 hcz14_1 hcz14_2 hcz14_3 hcz14_4); (try clear hcz15_0 hcz15_1 hcz15_2 hcz15_3 hcz15_4); (try clear hcz17_0 hcz17_1 hcz17_2 hcz17_3 hcz17_4); (try clear hcz18_0 hcz18_1 hcz18_2 hcz18_3 hcz18_4); (try clear hfz11_0 hfz11_1 hfz11_2 hfz11_3 hfz11_4); (try clear hfz12_0 hfz12_1 hfz12_2 hfz12_3 hfz12_4); (try clear hfz14_0 hfz14_1 hfz14_2 hfz14_3 hfz14_4); (try clear hfz15_0 hfz15_1 hfz15_2 hfz15_3 hfz15_4); (try clear hfz17_0 hfz17_1 hfz17_2 hfz17_3 hfz17_4); (try clear hfz18_0 hfz18_1 hfz18_2 hfz18_3 hfz18_4); (obtain ⟨kq, x26_3, rfl, HA, HJ3, BK175, BK176, HB⟩ := hcut)
  cases kq with
  | zero => exact absurd HA.out (by simp [grammar_rule.j0])
  | succ kj3 =>
   (have H := HA.out); clear HA; (simp only [grammar_rule.j0] at H); (by_cases c19 : x26_3 = true)
   ·subst c19
    (have H1 : (some 22) = some r := by rw [if_pos rfl] at H; exact H); clear H; (have H := H1); clear H1; (obtain rfl := Option.some.inj H); go_wp2; (go_ret); (exact ⟨qE, qF⟩)
   ·replace c19 := Bool.eq_false_iff.mpr c19
    subst c19; (have H1 : ((slices_ContainsFunc_grammar_rule_1.f kj3 l1_1 l0_0 l0_1 l0_2 l0_3 l0_4).bind fun t178 => (if t178 = true then (some 21) else (if (l1_2.length : Int) = 0 then (grammar_rule.j1 kj3 false l0_0 l0_1 l0_2 l0_3 l0_4 a1_0 l1_1 l1_2 a1_3 a1_4) else (grammar_rule.j1 kj3 ((l1_2.length : Int) != (l1_1.length : Int)) l0_0 l0_1 l0_2 l0_3 l0_4 a1_0 l1_1 l1_2 a1_3 a1_4)))) = some r := by rw [if_neg (show ¬ (false = true) by decide)] at H; exact H); clear H; (have H := H1); clear H1; (replace H := Option.bind_eq_some_iff.mp H); (obtain ⟨t178, A200, H⟩ := H); (replace H : (if t178 = true then (some 21) else (if (l1_2.length : Int) = 0 then (grammar_rule.j1 kj3 false l0_0 l0_1 l0_2 l0_3 l0_4 a1_0 l1_1 l1_2 a1_3 a1_4) else (grammar_rule.j1 kj3 ((l1_2.length : Int) != (l1_1.length : Int)) l0_0 l0_1 l0_2 l0_3 l0_4 a1_0 l1_1 l1_2 a1_3 a1_4))) = some r := H); (have A20 := qM A200); clear A200; (by_cases c21 : t178 = true)
    ·subst c21
     (have H1 : (some 21) = some r := by rw [if_pos rfl] at H; exact H); clear H; (have H := H1); clear H1; (obtain rfl := Option.some.inj H); (have hnb22 := NB176_175.out); (have hnc22 := NB175_176.out); (obtain ⟨hcz23_0, hcz23_1, hcz23_2, hcz23_3, hcz23_4, hfz23_0, hfz23_1, hfz23_2, hfz23_3, hfz23_4⟩ := bx5 BK176.out)
     go_wp2_with (first | ((with_reducible refine gate_callee (f := 77) rfl ?_); refine goesL_ (some 30) rfl rfl Tryd.func77 (by kernel_rfl) rfl #[.slice A1_1 l1_1.length c1_1, .func (.func 78) #[] #[.pointer (some ⟨gb175, 0, none⟩)]] rfl (by (try simp only [List.map_toArray, List.map_cons, List.map_nil]); first | done | rfl | (simp only [List.length_drop, List.length_take]; rfl)) ?_; (with_reducible refine (slices_ContainsFunc_grammar_rule_1.calls kj3 _ _ l1_1 gb175 A0_0 c0_0 l0_0 A0_1 c0_1 l0_1 A0_2 c0_2 l0_2 A0_3 c0_3 l0_3 A0_4 c0_4 l0_4 true _ ?side1 ?side2 ?side3 ?side4 ?side5 ?side6 ?side7 ?side8 ?side9 ?side10 ?side11 ?side12 ?side13 A20.out).mono ?_); (case side1 => exact qC HR1_1.out qF); (case side2 => exact HC1_1.out); (case side3 => exact qC HR0_0.out qF); (case side4 => exact HC0_0.out); (case side5 => exact qC HR0_1.out qF); (case side6 => exact HC0_1.out); (case side7 => exact qC HR0_2.out qF); (case side8 => exact HC0_2.out); (case side9 => exact qC HR0_3.out qF); (case side10 => exact HC0_3.out); (case side11 => exact qC HR0_4.out qF); (case side12 => exact HC0_4.out); (case side13 => exact qK); rintro e w24 ⟨rfl, hb⟩; refine ⟨_, rfl, ?_⟩; have n0_ := qM (qb (g := gb175) qK hb); have n1_ := qM (qb (g := gb176) qK hb); have n2_ := qM (qP qF hb); clear BK175; clear BK176; clear HB; have BK175 := n0_; have BK176 := n1_; have HB := n2_; clear n0_ n1_ n2_; (try clear hb); (try clear hb2); (try clear hk); (try clear hi)))
     (go_ret); (exact ⟨qE, qF⟩)
    ·replace c21 := Bool.eq_false_iff.mpr c21
     subst c21; (have H1 : (if (l1_2.length : Int) = 0 then (grammar_rule.j1 kj3 false l0_0 l0_1 l0_2 l0_3 l0_4 a1_0 l1_1 l1_2 a1_3 a1_4) else (grammar_rule.j1 kj3 ((l1_2.length : Int) != (l1_1.length : Int)) l0_0 l0_1 l0_2 l0_3 l0_4 a1_0 l1_1 l1_2 a1_3 a1_4)) = some r := by rw [if_neg (show ¬ (false = true) by decide)] at H; exact H); clear H; (have H := H1); clear H1; (have HC25 := qM H); clear H; (have hnb26 := NB176_175.out); (have hnc26 := NB175_176.out); (obtain ⟨hcz27_0, hcz27_1, hcz27_2, hcz27_3, hcz27_4, hfz27_0, hfz27_1, hfz27_2, hfz27_3, hfz27_4⟩ := bx5 BK176.out)
     go_upto_region 5 with (first | ((with_reducible refine gate_callee (f := 77) rfl ?_); refine goesL_ (some 30) rfl rfl Tryd.func77 (by kernel_rfl) rfl #[.slice A1_1 l1_1.length c1_1, .func (.func 78) #[] #[.pointer (some ⟨gb175, 0, none⟩)]] rfl (by (try simp only [List.map_toArray, List.map_cons, List.map_nil]); first | done | rfl | (simp only [List.length_drop, List.length_take]; rfl)) ?_; (with_reducible refine (slices_ContainsFunc_grammar_rule_1.calls kj3 _ _ l1_1 gb175 A0_0 c0_0 l0_0 A0_1 c0_1 l0_1 A0_2 c0_2 l0_2 A0_3 c0_3 l0_3 A0_4 c0_4 l0_4 false _ ?side1 ?side2 ?side3 ?side4 ?side5 ?side6 ?side7 ?side8 ?side9 ?side10 ?side11 ?side12 ?side13 A20.out).mono ?_); (case side1 => exact qC HR1_1.out qF); (case side2 => exact HC1_1.out); (case side3 => exact qC HR0_0.out qF); (case side4 => exact HC0_0.out); (case side5 => exact qC HR0_1.out qF); (case side6 => exact HC0_1.out); (case side7 => exact qC HR0_2.out qF); (case side8 => exact HC0_2.out); (case side9 => exact qC HR0_3.out qF); (case side10 => exact HC0_3.out); (case side11 => exact qC HR0_4.out qF); (case side12 => exact HC0_4.out); (case side13 => exact qK); rintro e w28 ⟨rfl, hb⟩; refine ⟨_, rfl, ?_⟩; have n0_ := qM (qb (g := gb175) qK hb); have n1_ := qM (qb (g := gb176) qK hb); have n2_ := qM (qP qF hb); clear BK175; clear BK176; clear HB; have BK175 := n0_; have BK176 := n1_; have HB := n2_; clear n0_ n1_ n2_; (try clear hb); (try clear hb2); (try clear hk); (try clear hi)))
     ((try simp only [Act.put, List.setIfInBounds_toArray, List.set_cons_zero, List.set_cons_succ])); (go_cut [43] (fun v43 wc => ∃ (kq : Nat) (x43_24 : Bool), v43 = .bool x43_24 ∧ Aside0 (grammar_rule.j1 kq x43_24 l0_0 l0_1 l0_2 l0_3 l0_4 a1_0 l1_1 l1_2 a1_3 a1_4 = some r) ∧ Aside0 (kq ≤ kj3) ∧ Aside0 (wc.heap[gb175]? = some (.cells #[(.slice A0_0 l0_0.length c0_0), (.slice A0_1 l0_1.length c0_1), (.slice A0_2 l0_2.length c0_2), (.slice A0_3 l0_3.length c0_3), (.slice A0_4 l0_4.length c0_4)] 40 (0, 0))) ∧ Aside0 (wc.heap[gb176]? = some (.cells #[.int .i64 a1_0, (.slice A1_1 l1_1.length c1_1), (.slice A1_2 l1_2.length c1_2), .string a1_3, .int .i64 a1_4] 58 (0, 0))) ∧ Aside0 (Below w.heap.size w wc)))
     case first =>
      (have H := HC25.out); clear HC25; (by_cases c29 : (l1_2.length : Int) = 0)
      ·rw [if_pos c29] at H
       (have c29b0 : ((l1_2.length : Int) == 0) = true := beq_iff_eq.mpr c29); (have c29b1 : ((l1_2.length : Int) != 0) = false := bne_eq_false_iff_eq.mpr c29); clear c29; ((first | rw [c29b0] | (simp only [i64_w, i32_w]; rw [c29b0]) | skip)); (have H' := qM H); clear H; (have hnb30 := NB176_175.out); (have hnc30 := NB175_176.out); (obtain ⟨hcz31_0, hcz31_1, hcz31_2, hcz31_3, hcz31_4, hfz31_0, hfz31_1, hfz31_2, hfz31_3, hfz31_4⟩ := bx5 BK176.out); go_wp2; go_meet
       case rel => exact ⟨_, (false), qV, H', ⟨by have := HJ3.out; first | omega | exact Nat.le_refl _⟩, ⟨qK⟩, ⟨qK⟩, ⟨qF⟩⟩
      ·rw [if_neg c29] at H
       (have c29b0 : ((l1_2.length : Int) == 0) = false := beq_eq_false_iff_ne.mpr c29); (have c29b1 : ((l1_2.length : Int) != 0) = true := bne_iff_ne.mpr c29); (have c29b2 : ¬ (l1_2 = []) := fun h_ => c29 (by rw [h_]; rfl)); ((first | rw [c29b0] | (simp only [i64_w, i32_w]; rw [c29b0]) | skip)); (have H' := qM H); clear H; (have hnb32 := NB176_175.out); (have hnc32 := NB175_176.out); (obtain ⟨hcz33_0, hcz33_1, hcz33_2, hcz33_3, hcz33_4, hfz33_0, hfz33_1, hfz33_2, hfz33_3, hfz33_4⟩ := bx5 BK176.out); go_wp2; go_meet
       case rel => exact ⟨_, (((l1_2.length : Int) != (l1_1.length : Int))), qV, H', ⟨by have := HJ3.out; first | omega | exact Nat.le_refl _⟩, ⟨qK⟩, ⟨qK⟩, ⟨qF⟩⟩
     case rest =>
      clear HC25; (try clear c1); (try clear c2); (try clear p2); (try clear c3); (try clear c5); (try clear p6); (try clear c7); (try clear c8); (try clear c9); (try clear c9b0); (try clear c10); (try clear c13); (try clear c16); (try clear c19); (try clear c21); (try clear c22); (try clear c26); (try clear c29); (try clear c29b0); (try clear c29b1); (try clear c29b2); (try clear c30); (try clear c32); (try clear hcz11_0 hcz11_1 hcz11_2 hcz11_3 hcz11_4); (try clear hcz12_0 hcz12_1 hcz12_2 hcz12_3 hcz12_4); (try clear hcz14_0 hcz14_1 hcz14_2 hcz14_3 hcz14_4); (try clear hcz15_0 hcz15_1 hcz15_2 hcz15_3 hcz15_4); (try clear hcz17_0 hcz17_1 hcz17_2 hcz17_3 hcz17_4); (try clear hcz18_0 hcz18_1 hcz18_2 hcz18_3 hcz18_4); (try clear hcz23_0 hcz23_1 hcz23_2 hcz23_3 hcz23_4); (try clear hcz27_0 hcz27_1 hcz27_2 hcz27_3 hcz27_4); (try clear hcz31_0 hcz31_1 hcz31_2 hcz31_3 hcz31_4); (try clear hcz33_0 hcz33_1 hcz33_2 hcz33_3 hcz33_4); (try clear hfz11_0 hfz11_1 hfz11_2 hfz11_3 hfz11_4); (try clear hfz12_0 hfz12_1 hfz12_2 hfz12_3 hfz12_4); (try clear hfz14_0 hfz14_1 hfz14_2 hfz14_3 hfz14_4); (try clear hfz15_0 hfz15_1 hfz15_2 hfz15_3 hfz15_4); (try clear hfz17_0 hfz17_1 hfz17_2 hfz17_3 hfz17_4); (try clear hfz18_0 hfz18_1 hfz18_2 hfz18_3 hfz18_4); (try clear hfz23_0 hfz23_1 hfz23_2 hfz23_3 hfz23_4); (try clear hfz27_0 hfz27_1 hfz27_2 hfz27_3 hfz27_4); (try clear hfz31_0 hfz31_1 hfz31_2 hfz31_3 hfz31_4); (try clear hfz33_0 hfz33_1 hfz33_2 hfz33_3 hfz33_4); (try clear p2); (try clear p6); (obtain ⟨kq, x43_24, rfl, HA, HJ24, BK175, BK176, HB⟩ := hcut)
      cases kq with
      | zero => exact absurd HA.out (by simp [grammar_rule.j1])
      | succ kj24 =>
       (have H := HA.out); clear HA; (simp only [grammar_rule.j1] at H); (by_cases c34 : x43_24 = true)
       ·subst c34
        (have H1 : (some 25) = some r := by rw [if_pos rfl] at H; exact H); clear H; (have H := H1); clear H1; (obtain rfl := Option.some.inj H); go_wp2; (go_ret); (exact ⟨qE, qF⟩)
       ·replace c34 := Bool.eq_false_iff.mpr c34
        subst c34; (have H1 : ((grammar_within.f a1_4 0 (l0_4.length : Int)).bind fun t179 => (if t179 = true then (some 0) else (some 24))) = some r := by rw [if_neg (show ¬ (false = true) by decide)] at H; exact H); clear H; (have H := H1); clear H1; (replace H := Option.bind_eq_some_iff.mp H); (obtain ⟨t179, A350, H⟩ := H); (replace H : (if t179 = true then (some 0) else (some 24)) = some r := H); (have A35 := qM A350); clear A350; (by_cases c36 : t179 = true)
        ·subst c36
         (have H1 : (some 0) = some r := by rw [if_pos rfl] at H; exact H); clear H; (have H := H1); clear H1; (obtain rfl := Option.some.inj H); (have hnb37 := NB176_175.out); (have hnc37 := NB175_176.out); (obtain ⟨hcz38_0, hcz38_1, hcz38_2, hcz38_3, hcz38_4, hfz38_0, hfz38_1, hfz38_2, hfz38_3, hfz38_4⟩ := bx5 BK176.out); (obtain ⟨hcz39_0, hcz39_1, hcz39_2, hcz39_3, hcz39_4, hfz39_0, hfz39_1, hfz39_2, hfz39_3, hfz39_4⟩ := bx5 BK175.out); (go_wp2_with (first | ((with_reducible refine gate_callee (f := 55) rfl ?_); refine goesL_ (some 49) rfl rfl Tryd.func55 (by kernel_rfl) rfl #[.int .i64 a1_4, .int .i64 0, .int .i64 (l0_4.length : Int)] rfl (by (try simp only [List.map_toArray, List.map_cons, List.map_nil]); first | done | rfl | (simp only [List.length_drop, List.length_take]; rfl)) ?_; (with_reducible refine (grammar_within.calls a1_4 0 (l0_4.length : Int) true _ A35.out).mono ?_); rintro e w' ⟨rfl, ⟨nd, rfl⟩⟩; refine ⟨_, rfl, ?_⟩))); (go_ret); (exact ⟨qE, qF⟩)
        ·replace c36 := Bool.eq_false_iff.mpr c36
         subst c36; (have H1 : (some 24) = some r := by rw [if_neg (show ¬ (false = true) by decide)] at H; exact H); clear H; (have H := H1); clear H1; (obtain rfl := Option.some.inj H); (have hnb40 := NB176_175.out); (have hnc40 := NB175_176.out); (obtain ⟨hcz41_0, hcz41_1, hcz41_2, hcz41_3, hcz41_4, hfz41_0, hfz41_1, hfz41_2, hfz41_3, hfz41_4⟩ := bx5 BK176.out); (obtain ⟨hcz42_0, hcz42_1, hcz42_2, hcz42_3, hcz42_4, hfz42_0, hfz42_1, hfz42_2, hfz42_3, hfz42_4⟩ := bx5 BK175.out); (go_wp2_with (first | ((with_reducible refine gate_callee (f := 55) rfl ?_); refine goesL_ (some 49) rfl rfl Tryd.func55 (by kernel_rfl) rfl #[.int .i64 a1_4, .int .i64 0, .int .i64 (l0_4.length : Int)] rfl (by (try simp only [List.map_toArray, List.map_cons, List.map_nil]); first | done | rfl | (simp only [List.length_drop, List.length_take]; rfl)) ?_; (with_reducible refine (grammar_within.calls a1_4 0 (l0_4.length : Int) false _ A35.out).mono ?_); rintro e w' ⟨rfl, ⟨nd, rfl⟩⟩; refine ⟨_, rfl, ?_⟩))); (go_ret); (exact ⟨qE, qF⟩)
end Go.Proofs.YtphmgaijkdflnaaDoor.H
end
section
namespace Go.Proofs.YtphmgaijkdflnaaDoor.H
open Go.RowKit Go.Proofs.YtphmgaijkdflnaaDoorW.PrintWords Go.Proofs.YtphmgaijkdflnaaDoorW.PrintLast Go.Proofs.YtphmgaijkdflnaaDoorW.PrintMore
open Go.WideMaps Go.Maps
set_option linter.unusedVariables false
set_option linter.unusedSimpArgs false
structure InG (w : World) (A0 : Option Addr) (c0 : Nat) (l0 : List ByteArray) (A1 : Option Addr) (c1 : Nat) (l1 : List ByteArray) (A2 : Option Addr) (c2 : Nat) (l2 : List Int) (A3 : Option Addr) (c3 : Nat) (l3 : List S58) (A4 : Option Addr) (c4 : Nat) (l4 : List S61) : Prop where
  r0 : Kd.C Kd.string w A0 l0.length l0
  h0 : l0.length ≤ c0
  r1 : Kd.C Kd.string w A1 l1.length l1
  h1 : l1.length ≤ c1
  r2 : Kd.C (Kd.int .i64) w A2 l2.length l2
  h2 : l2.length ≤ c2
  r3 : Kd.C k58 w A3 l3.length l3
  h3 : l3.length ≤ c3
  r4 : Kd.C k61 w A4 l4.length l4
  h4 : l4.length ≤ c4
section
variable {w W : World} {A0 : Option Addr} {c0 : Nat} {l0 : List ByteArray} {A1 : Option Addr} {c1 : Nat} {l1 : List ByteArray} {A2 : Option Addr} {c2 : Nat} {l2 : List Int} {A3 : Option Addr} {c3 : Nat} {l3 : List S58} {A4 : Option Addr} {c4 : Nat} {l4 : List S61}
theorem InG.below (h : InG w A0 c0 l0 A1 c1 l1 A2 c2 l2 A3 c3 l3 A4 c4 l4) (hb : Below w.heap.size w W) : InG W A0 c0 l0 A1 c1 l1 A2 c2 l2 A3 c3 l3 A4 c4 l4 :=
  ⟨Kd.C_below h.r0 hb, h.h0, Kd.C_below h.r1 hb, h.h1, Kd.C_below h.r2 hb, h.h2, Kd.C_below h.r3 hb, h.h3, Kd.C_below h.r4 hb, h.h4⟩
theorem InG.counts {k : Nat} {r : Bool} (G : InG w A0 c0 l0 A1 c1 l1 A2 c2 l2 A3 c3 l3 A4 c4 l4) (h : grammar_counts.f k l0 l1 l2 l3 l4 = some r) :
    Calls Tryd.prog 51 #[.agg #[.slice A0 l0.length c0, .slice A1 l1.length c1, .slice A2 l2.length c2, .slice A3 l3.length c3, .slice A4 l4.length c4]] w fun e w' => e = .returned (.bool r) ∧ Below w.heap.size w w' :=
  grammar_counts.calls k _ _ _ _ _ _ _ _ _ _ _ _ _ _ _ r w G.r0 G.h0 G.r1 G.h1 G.r2 G.h2 G.r3 G.h3 G.r4 G.h4 h
theorem InG.start {k : Nat} {r : Bool} (G : InG w A0 c0 l0 A1 c1 l1 A2 c2 l2 A3 c3 l3 A4 c4 l4) (h : grammar_start.f k l0 l1 l2 l3 l4 = some r) :
    Calls Tryd.prog 53 #[.agg #[.slice A0 l0.length c0, .slice A1 l1.length c1, .slice A2 l2.length c2, .slice A3 l3.length c3, .slice A4 l4.length c4]] w fun e w' => e = .returned (.bool r) ∧ Below w.heap.size w w' :=
  grammar_start.calls k _ _ _ _ _ _ _ _ _ _ _ _ _ _ _ r w G.r0 G.h0 G.r1 G.h1 G.r2 G.h2 G.r3 G.h3 G.r4 G.h4 h
def GB (W : World) (g : Nat) (A0 : Option Addr) (c0 : Nat) (l0 : List ByteArray) (A1 : Option Addr) (c1 : Nat) (l1 : List ByteArray) (A2 : Option Addr) (c2 : Nat) (l2 : List Int) (A3 : Option Addr) (c3 : Nat) (l3 : List S58) (A4 : Option Addr) (c4 : Nat) (l4 : List S61) : Prop :=
  W.heap[g]? = some (.cells #[.slice A0 l0.length c0, .slice A1 l1.length c1, .slice A2 l2.length c2, .slice A3 l3.length c3, .slice A4 l4.length c4] 40 (0, 0))
theorem GB.new (w : World) : GB (w.alloc (.cells #[.slice A0 l0.length c0, .slice A1 l1.length c1, .slice A2 l2.length c2, .slice A3 l3.length c3, .slice A4 l4.length c4] 40 (0, 0))) w.heap.size A0 c0 l0 A1 c1 l1 A2 c2 l2 A3 c3 l3 A4 c4 l4 := blk_new w _
theorem GB.below {g : Nat} (h : GB w g A0 c0 l0 A1 c1 l1 A2 c2 l2 A3 c3 l3 A4 c4 l4) (hb : Below w.heap.size w W) : GB W g A0 c0 l0 A1 c1 l1 A2 c2 l2 A3 c3 l3 A4 c4 l4 := blk_below h hb
theorem GB.grown {g : Nat} {row : Option Nat} (h : GB w g A0 c0 l0 A1 c1 l1 A2 c2 l2 A3 c3 l3 A4 c4 l4) (hg : w.grownBy W row) (hne : some g ≠ row) : GB W g A0 c0 l0 A1 c1 l1 A2 c2 l2 A3 c3 l3 A4 c4 l4 := blk_grown h hg hne
theorem GB.cells {g : Nat} (h : GB w g A0 c0 l0 A1 c1 l1 A2 c2 l2 A3 c3 l3 A4 c4 l4) :
    w.cell? ⟨g, 0, none⟩ = some (.slice A0 l0.length c0) ∧ w.cell? ⟨g, 1, none⟩ = some (.slice A1 l1.length c1) ∧ w.cell? ⟨g, 2, none⟩ = some (.slice A2 l2.length c2) ∧ w.cell? ⟨g, 3, none⟩ = some (.slice A3 l3.length c3) ∧ w.cell? ⟨g, 4, none⟩ = some (.slice A4 l4.length c4) :=
  ⟨(blk_cell h 0).trans rfl, (blk_cell h 1).trans rfl, (blk_cell h 2).trans rfl, (blk_cell h 3).trans rfl, (blk_cell h 4).trans rfl⟩
end
end Go.Proofs.YtphmgaijkdflnaaDoor.H
end
section
namespace Go.Proofs.YtphmgaijkdflnaaDoor.H
open Go.RowKit Go.Proofs.YtphmgaijkdflnaaDoorW.PrintWords Go.Proofs.YtphmgaijkdflnaaDoorW.PrintLast Go.Proofs.YtphmgaijkdflnaaDoorW.PrintMore
open Go.Maps
set_option linter.unusedVariables false
set_option linter.unusedSimpArgs false
def termsGo (n : Int) : (Int → Bool) → List Int → Option (Int → Bool)
  | met, [] => some met
  | met, t :: r => if 2 ≤ t ∧ t ≤ n - 1 ∧ met t = false then termsGo n (fun z => z == t || met z) r else none
def levelsGo (n : Int) : (Int → Bool) → List S61 → Int
  | _, [] => 0
  | met, x :: r => if 1 ≤ x.f0 ∧ x.f0 ≤ 4 then (match termsGo n met x.f1 with | none => 24 | some m => levelsGo n m r) else 24
def rulesGo (k : Nat) (l0_0 l0_1 : List ByteArray) (l0_2 : List Int) (l0_3 : List S58) (l0_4 : List S61) : Int → List S58 → Option Int
  | _, [] => some 0
  | ahead, x :: r => (grammar_rule.f k l0_0 l0_1 l0_2 l0_3 l0_4 x.f0 x.f1 x.f2 x.f3 x.f4 ahead).bind fun e => if e = 0 then rulesGo k l0_0 l0_1 l0_2 l0_3 l0_4 x.f0 r else some e
def grammar_Right.ok (l0 : List ByteArray) (l4 : List S61) : Bool := decide (l0.length ≤ 1000000) && decide (l4.length ≤ 1000000) && l4.all (fun x => decide (x.f1.length ≤ 1000000) && x.f1.all (fun t => decide (-9223372036854775808 ≤ t) && decide (t ≤ 9223372036854775807)))
def grammar_Right.f (k : Nat) (l0_0 : List ByteArray) (l0_1 : List ByteArray) (l0_2 : List Int) (l0_3 : List S58) (l0_4 : List S61) : Option Int :=
  (grammar_counts.f k l0_0 l0_1 l0_2 l0_3 l0_4).bind fun c => if c = true then
    ((grammar_twice.f l0_0).bind fun t => if t = true then some 8 else
      ((grammar_twice.f l0_1).bind fun u => if u = true then some 8 else
        ((grammar_start.f k l0_0 l0_1 l0_2 l0_3 l0_4).bind fun s => if s = true then
          ((rulesGo k l0_0 l0_1 l0_2 l0_3 l0_4 0 l0_3).bind fun e => if e = 0 then
            (if grammar_Right.ok l0_0 l0_4 = true then some (levelsGo l0_0.length (fun _ => false) l0_4) else none)
          else some e)
        else some 23)))
  else some 9
def MM {H : Type} (D : DataW H) (met : Int → Bool) : Prop := ∀ z : Int, D.atKey (.int .i64 z) (.lit (.int .i64 0)) = .lit (.int .i64 (if met z = true then 1 else 0))
theorem MM.zero {H : Type} : MM (H := H) (.map []) (fun _ => false) := fun z => by simp [DataW.atKey]
theorem MM.put {H : Type} {D : DataW H} {met : Int → Bool} (h : MM D met) (hm : Maps.IsMap D) (t : Int) : MM (D.put (.int .i64 t) (.lit (.int .i64 1))) (fun z => z == t || met z) := fun z => by
  have hk : WideAt.IsKeyLit (.int .i64 t) := trivial
  by_cases e : z = t
  · subst e
    rw [Maps.atKey_put_same hm hk]
    simp
  · rw [Maps.atKey_put_other (fun he => e (by injection he)), h z]
    simp [e]
theorem law_int : Keyed Tryd.prog 3 := int_keyed Tryd.underlying3
def Cap (n j i : Nat) : Prop := n ≤ j * 1000000 + i
set_option maxRecDepth 100000
theorem Cap.zero : Cap 0 0 0 := Nat.zero_le _
theorem Cap.step {n j i : Nat} (h : Cap n j i) : Cap (n + 1) j (i + 1) := by unfold Cap at *; omega
theorem Cap.next {n j i : Nat} (h : Cap n j i) (hi : i ≤ 1000000) : Cap n (j + 1) 0 := by
  unfold Cap at *
  rw [Nat.succ_mul, Nat.add_zero]
  exact Nat.le_trans h (Nat.add_le_add_left hi _)
theorem Cap.lt {n j i l : Nat} (h : Cap n j i) (hj : j < l) (hl : l ≤ 1000000) (hi : i ≤ 1000000) : n < maxLen := by
  unfold Cap at h
  have h2 : j * 1000000 ≤ l * 1000000 := Nat.mul_le_mul_right _ (Nat.le_of_lt hj)
  have h3 : l * 1000000 ≤ 1000000 * 1000000 := Nat.mul_le_mul_right _ hl
  have h4 : n ≤ 1000000 * 1000000 + 1000000 := Nat.le_trans h (Nat.add_le_add (Nat.le_trans h2 h3) hi)
  refine Nat.lt_of_le_of_lt h4 ?_
  unfold maxLen
  decide
theorem within_no {t n : Int} (h : ¬ (2 ≤ t ∧ t ≤ n)) : grammar_within.f t 2 n = some false := by
  unfold grammar_within.f
  by_cases h5 : t ≥ 2
  · rw [if_pos h5, decide_eq_false (fun z => h ⟨h5, z⟩)]
  · rw [if_neg h5]
theorem rulesGo.mono (l0_0 l0_1 : List ByteArray) (l0_2 : List Int) (l0_3 : List S58) (l0_4 : List S61) (k : Nat) : ∀ (l : List S58) (a : Int), LeO (rulesGo k l0_0 l0_1 l0_2 l0_3 l0_4 a l) (rulesGo (k + 1) l0_0 l0_1 l0_2 l0_3 l0_4 a l)
  | [], a => LeO.refl _
  | x :: r, a => LeO.bind (grammar_rule.mono _ _ _ _ _ _ _ _ _ _ _ k) fun e => LeO.ite (rulesGo.mono _ _ _ _ _ k r _) (LeO.refl _)
theorem grammar_Right.mono : ∀ a0 a1 a2 a3 a4 k, LeO (grammar_Right.f k a0 a1 a2 a3 a4) (grammar_Right.f (k + 1) a0 a1 a2 a3 a4) := by
  intro a0 a1 a2 a3 a4 k
  unfold grammar_Right.f
  refine LeO.bind (grammar_counts.mono _ _ _ _ _ k) fun c => LeO.ite ?_ (LeO.refl _)
  refine LeO.bind (LeO.refl _) fun t => LeO.ite (LeO.refl _) ?_
  refine LeO.bind (LeO.refl _) fun u => LeO.ite (LeO.refl _) ?_
  refine LeO.bind (grammar_start.mono _ _ _ _ _ k) fun s => LeO.ite ?_ (LeO.refl _)
  exact LeO.bind (rulesGo.mono _ _ _ _ _ k _ _) fun e => LeO.refl _
set_option maxHeartbeats 800000 in
set_option maxRecDepth 100000 in
theorem grammar_Right.calls (k : Nat) (A0_0 : Option Addr) (c0_0 : Nat) (l0_0 : List ByteArray) (A0_1 : Option Addr) (c0_1 : Nat) (l0_1 : List ByteArray) (A0_2 : Option Addr) (c0_2 : Nat) (l0_2 : List Int) (A0_3 : Option Addr) (c0_3 : Nat) (l0_3 : List (S58)) (A0_4 : Option Addr) (c0_4 : Nat) (l0_4 : List (S61)) (r : Int) (w : World) (hr0_0 : Kd.C Kd.string w A0_0 l0_0.length l0_0) (hc0_0 : l0_0.length ≤ c0_0) (hr0_1 : Kd.C Kd.string w A0_1 l0_1.length l0_1) (hc0_1 : l0_1.length ≤ c0_1) (hr0_2 : Kd.C (Kd.int .i64) w A0_2 l0_2.length l0_2) (hc0_2 : l0_2.length ≤ c0_2) (hr0_3 : Kd.C k58 w A0_3 l0_3.length l0_3) (hc0_3 : l0_3.length ≤ c0_3) (hr0_4 : Kd.C k61 w A0_4 l0_4.length l0_4) (hc0_4 : l0_4.length ≤ c0_4) (h : grammar_Right.f k l0_0 l0_1 l0_2 l0_3 l0_4 = some r) :
    Calls Tryd.prog 38 #[.agg #[.slice A0_0 l0_0.length c0_0, .slice A0_1 l0_1.length c0_1, .slice A0_2 l0_2.length c0_2, .slice A0_3 l0_3.length c0_3, .slice A0_4 l0_4.length c0_4]] w fun e w' => e = .returned (.int .i64 r) ∧ Below w.heap.size w w' := by
  have HG := Aside0.mk (InG.mk hr0_0 hc0_0 hr0_1 hc0_1 hr0_2 hc0_2 hr0_3 hc0_3 hr0_4 hc0_4)
  clear hr0_0 hc0_0 hr0_1 hc0_1 hr0_2 hc0_2 hr0_3 hc0_3 hr0_4 hc0_4
  have hmm := @run_makeMap Tryd.prog
  have hb3 : l0_3.length ≤ 9223372036854775807 := HG.out.r3.2.1
  have hb4 : l0_4.length ≤ 9223372036854775807 := HG.out.r4.2.1
  have hu := Tryd.underlying40
  have hur := Tryd.underlying58
  have hul := Tryd.underlying61
  unfold grammar_Right.f at h
  obtain ⟨c, hcnt, h1⟩ := Option.bind_eq_some_iff.mp h
  clear h
  have HCN := Aside0.mk hcnt
  clear hcnt
  go_enter Tryd.func38, Tryd.ntmps38
  cases c with
  | false =>
    obtain rfl : r = 9 := by simpa using h1.symm
    clear h1
    go_wp2_with (go_at_call 51; refine ((HG.out.below (below_alloc (Below.refl _ _) _)).counts HCN.out).mono ?_; rintro e w1 ⟨rfl, hb⟩; have HB := Aside0.mk (below_step (below_alloc (Below.refl _ _) _) hb); clear hb)
    go_ret
    exact ⟨rfl, HB.out⟩
  | true =>
    simp only [if_true] at h1
    obtain ⟨t, htw, h⟩ := Option.bind_eq_some_iff.mp h1
    clear h1
    have HTW := Aside0.mk htw
    clear htw
    go_wp2_with (go_at_call 51; refine ((HG.out.below (below_alloc (Below.refl _ _) _)).counts HCN.out).mono ?_; rintro e w1 ⟨rfl, hb⟩; have HB := Aside0.mk (below_step (below_alloc (Below.refl _ _) _) hb); have BK := Aside0.mk (GB.below (GB.new w (A0 := A0_0) (c0 := c0_0) (l0 := l0_0) (A1 := A0_1) (c1 := c0_1) (l1 := l0_1) (A2 := A0_2) (c2 := c0_2) (l2 := l0_2) (A3 := A0_3) (c3 := c0_3) (l3 := l0_3) (A4 := A0_4) (c4 := c0_4) (l4 := l0_4)) hb); clear hb; obtain ⟨hcz0, hcz1, hcz2, hcz3, hcz4⟩ := BK.out.cells)
    refine (grammar_twice.calls _ _ l0_0 t _ (Kd.C_below HG.out.r0 HB.out) HG.out.h0 HTW.out).mono ?_
    rintro e w2 ⟨rfl, hb⟩
    replace HB := Aside0.mk (below_step HB.out hb)
    replace BK := Aside0.mk (BK.out.below hb)
    clear hcz0 hcz1 hcz2 hcz3 hcz4 hb HTW
    obtain ⟨hcz0, hcz1, hcz2, hcz3, hcz4⟩ := BK.out.cells
    cases t with
    | true =>
      obtain rfl : r = 8 := by simpa using h.symm
      clear h
      go_wp2_with fail
      go_ret
      exact ⟨rfl, HB.out⟩
    | false =>
    simp only [Bool.false_eq_true, if_false] at h
    obtain ⟨u, htw, h2⟩ := Option.bind_eq_some_iff.mp h
    clear h
    have HTW := Aside0.mk htw
    have HH := Aside0.mk h2
    clear htw h2
    go_wp2_with fail
    refine (grammar_twice.calls _ _ l0_1 u _ (Kd.C_below HG.out.r1 HB.out) HG.out.h1 HTW.out).mono ?_
    rintro e w3 ⟨rfl, hb⟩
    replace HB := Aside0.mk (below_step HB.out hb)
    replace BK := Aside0.mk (BK.out.below hb)
    clear hcz0 hcz1 hcz2 hcz3 hcz4 hb HTW
    obtain ⟨hcz0, hcz1, hcz2, hcz3, hcz4⟩ := BK.out.cells
    cases u with
    | true =>
      obtain rfl : r = 8 := by simpa using HH.out.symm
      go_wp2_with fail
      go_ret
      exact ⟨rfl, HB.out⟩
    | false =>
    have h := HH.out
    clear HH
    simp only [Bool.false_eq_true, if_false] at h
    obtain ⟨s, hst, h2⟩ := Option.bind_eq_some_iff.mp h
    clear h
    have HST := Aside0.mk hst
    have HH := Aside0.mk h2
    clear hst h2
    go_wp2_with fail
    refine ((HG.out.below HB.out).start HST.out).mono ?_
    rintro e w4 ⟨rfl, hb⟩
    replace HB := Aside0.mk (below_step HB.out hb)
    replace BK := Aside0.mk (BK.out.below hb)
    clear hcz0 hcz1 hcz2 hcz3 hcz4 hb HST
    obtain ⟨hcz0, hcz1, hcz2, hcz3, hcz4⟩ := BK.out.cells
    cases s with
    | false =>
      obtain rfl : r = 23 := by simpa using HH.out.symm
      go_wp2_with fail
      go_ret
      exact ⟨rfl, HB.out⟩
    | true =>
    have h := HH.out
    clear HH
    simp only [if_true] at h
    have HH := Aside0.mk h
    clear h
    go_wp2_with fail
    go_loopw [3, 32] (fun v3 v32 wr => ∃ (a : Int) (i : Nat), v3 = .int .i64 a ∧ i ≤ l0_3.length ∧ v32 = .int .i64 i ∧ Aside0 (((rulesGo k l0_0 l0_1 l0_2 l0_3 l0_4 a (l0_3.drop i)).bind fun e => if e = 0 then
            (if grammar_Right.ok l0_0 l0_4 = true then some (levelsGo l0_0.length (fun _ => false) l0_4) else none)
          else some e) = some r) ∧ Aside0 (GB wr w.heap.size A0_0 c0_0 l0_0 A0_1 c0_1 l0_1 A0_2 c0_2 l0_2 A0_3 c0_3 l0_3 A0_4 c0_4 l0_4) ∧ Aside0 (Below w.heap.size w wr))
      (fun _ v32 _ => l0_3.length - (intOf v32).toNat)
    case atStart => exact ⟨0, 0, rfl, Nat.zero_le _, rfl, HH, BK, HB⟩
    case round =>
      clear HH BK HB hcz0 hcz1 hcz2 hcz3 hcz4
      obtain ⟨a, i, rfl, hi, rfl, HH, BK, HB⟩ := hrel
      have hsz : w.heap.size < wr.heap.size := blk_lt BK.out
      have hne : ¬ (w.heap.size = wr.heap.size) := Nat.ne_of_lt hsz
      obtain ⟨hcz0, hcz1, hcz2, hcz3, hcz4⟩ := BK.out.cells
      by_cases hlt : i < l0_3.length
      · obtain ⟨ad, A1, c1, A2, c2, e0, hx0, hx1, hx2, hx3, hx4, hl1, hi1, hl2, hi2⟩ := at_T58 HG.out.r3 (i : Int) (by omega) (by omega)
        cases e0
        simp only [Int.toNat_natCast] at hx0 hx1 hx2 hx3 hx4
        replace hx0 := (HB.out.cell (World.block_lt_of_cell? w _ hx0)).trans hx0
        replace hx1 := (HB.out.cell (World.block_lt_of_cell? w _ hx1)).trans hx1
        replace hx2 := (HB.out.cell (World.block_lt_of_cell? w _ hx2)).trans hx2
        replace hx3 := (HB.out.cell (World.block_lt_of_cell? w _ hx3)).trans hx3
        replace hx4 := (HB.out.cell (World.block_lt_of_cell? w _ hx4)).trans hx4
        have HI1 := Aside0.mk hi1
        have HI2 := Aside0.mk hi2
        clear hi1 hi2
        have h := HH.out
        rw [List.drop_eq_getElem_cons hlt, show l0_3[i] = rd_T58 l0_3 (i : Int) from by simp [rd_T58, List.getD_eq_getElem?_getD, List.getElem?_eq_getElem hlt]] at h
        simp only [rulesGo, Option.bind_assoc] at h
        obtain ⟨e1, hrl, h2⟩ := Option.bind_eq_some_iff.mp h
        have HRL := Aside0.mk hrl
        have HH2 := Aside0.mk h2
        clear h h2 hrl HH
        go_wp2_with fail
        refine (grammar_rule.calls k _ _ l0_0 _ _ l0_1 _ _ l0_2 _ _ l0_3 _ _ l0_4 _ _ _ _ _ _ _ _ _ a e1 _ ?s0 HG.out.h0 ?s1 HG.out.h1 ?s2 HG.out.h2 ?s3 HG.out.h3 ?s4 HG.out.h4 ?t1 hl1 ?t2 hl2 HRL.out).mono ?_
        case s0 => exact Kd.C_below HG.out.r0 (by repeat (first | exact HB.out | refine below_set ?_ (Nat.le_of_lt hsz) | apply below_alloc))
        case s1 => exact Kd.C_below HG.out.r1 (by repeat (first | exact HB.out | refine below_set ?_ (Nat.le_of_lt hsz) | apply below_alloc))
        case s2 => exact Kd.C_below HG.out.r2 (by repeat (first | exact HB.out | refine below_set ?_ (Nat.le_of_lt hsz) | apply below_alloc))
        case s3 => exact Kd.C_below HG.out.r3 (by repeat (first | exact HB.out | refine below_set ?_ (Nat.le_of_lt hsz) | apply below_alloc))
        case s4 => exact Kd.C_below HG.out.r4 (by repeat (first | exact HB.out | refine below_set ?_ (Nat.le_of_lt hsz) | apply below_alloc))
        case t1 => exact Kd.C_below HI1.out (by repeat (first | exact HB.out | refine below_set ?_ (Nat.le_of_lt hsz) | apply below_alloc))
        case t2 => exact Kd.C_below HI2.out (by repeat (first | exact HB.out | refine below_set ?_ (Nat.le_of_lt hsz) | apply below_alloc))
        rintro e w5 ⟨rfl, hb⟩
        have HB2 := Aside0.mk (below_step (w := w) (by repeat (first | exact HB.out | refine below_set ?_ (Nat.le_of_lt hsz) | apply below_alloc)) hb)
        have BK2 := Aside0.mk (show GB w5 w.heap.size A0_0 c0_0 l0_0 A0_1 c0_1 l0_1 A0_2 c0_2 l0_2 _ c0_3 l0_3 A0_4 c0_4 l0_4 from blk_below (g := w.heap.size) (by repeat (first | exact BK.out | refine blk_far ?_ hne _ | refine blk_alloc ?_ _)) hb)
        have BX := Aside0.mk (blk_below (g := wr.heap.size) (o := .cells #[.int .i64 (rd_T58 l0_3 (i : Int)).f0, .slice A1 (rd_T58 l0_3 (i : Int)).f1.length c1, .slice A2 (rd_T58 l0_3 (i : Int)).f2.length c2, .string (rd_T58 l0_3 (i : Int)).f3, .int .i64 (rd_T58 l0_3 (i : Int)).f4] 58 (0, 0)) (blk_new wr _) hb)
        clear hx0 hx1 hx2 hx3 hx4 hb hcz0 hcz1 hcz2 hcz3 hcz4
        have hy0 : w5.cell? ⟨wr.heap.size, 0, none⟩ = some (.int .i64 (rd_T58 l0_3 (i : Int)).f0) := (blk_cell BX.out 0).trans rfl
        by_cases he : e1 = 0
        · subst he
          have HR2 := Aside0.mk HH2.out
          simp only [if_true] at HR2
          go_wp2_with fail
          go_roundw
          case rel => exact ⟨_, i + 1, rfl, by omega, by go_num, HR2, BK2, HB2⟩
          case measure => simp [intOf]; omega
        · obtain rfl : r = e1 := by have := HH2.out; rw [if_neg he] at this; simpa [he] using this.symm
          have hq1 : (r == 0) = false := beq_eq_false_iff_ne.mpr he
          have hq2 : (r != 0) = true := bne_iff_ne.mpr he
          go_wp2_with fail
          go_ret
          exact ⟨rfl, HB2.out⟩
      · have hie : i = l0_3.length := by omega
        subst hie
        have h := HH.out
        rw [List.drop_of_length_le (Nat.le_refl _)] at h
        simp only [rulesGo, Option.bind_some, if_true] at h
        split at h
        case isFalse => cases h
        rename_i hok
        have HR := Aside0.mk (Option.some.inj h)
        have HOK := Aside0.mk hok
        clear h hok HH
        simp only [grammar_Right.ok, Bool.and_eq_true, decide_eq_true_eq, List.all_eq_true] at HOK
        have hT0 : l0_0.length ≤ 1000000 := HOK.out.1.1
        have hT4 : l0_4.length ≤ 1000000 := HOK.out.1.2
        have HX := Aside0.mk HOK.out.2
        clear HOK hcz0 hcz1 hcz2 hcz3
        obtain ⟨wo, rfl⟩ : ∃ wo : World, wo = wr := ⟨_, rfl⟩
        go_wp2_with fail
        go_loopw [50] (fun v50 wr => ∃ (j n : Nat) (met : Int → Bool), j ≤ l0_4.length ∧ v50 = .int .i64 j ∧ Aside0 (Cap n j 0) ∧ (∃ D : DataW Unit, Aside0 (wr.ownsMap Tryd.prog 3 (plainElem Tryd.prog 3) wo.heap.size n D) ∧ Aside0 (MM D met)) ∧ Aside0 (levelsGo l0_0.length met (l0_4.drop j) = r) ∧ Aside0 (GB wr w.heap.size A0_0 c0_0 l0_0 A0_1 c0_1 l0_1 A0_2 c0_2 l0_2 A0_3 c0_3 l0_3 A0_4 c0_4 l0_4) ∧ Aside0 (Below w.heap.size w wr))
          (fun v50 _ => l0_4.length - (intOf v50).toNat)
        case atStart => exact ⟨0, 0, fun _ => false, Nat.zero_le _, rfl, ⟨Cap.zero⟩, ⟨.map [], ⟨World.ownsMap_made _ _ _ _⟩, ⟨MM.zero⟩⟩, HR, ⟨blk_alloc BK.out _⟩, ⟨below_alloc HB.out _⟩⟩
        case round =>
          clear HR BK HB hcz4
          obtain ⟨j, n, met, hj, rfl, hn, ⟨D, HO, HD⟩, HR, BK, HB⟩ := hrel
          obtain ⟨hcz0, hcz1, hcz2, hcz3, hcz4⟩ := BK.out.cells
          have hsz2 : w.heap.size < wr.heap.size := blk_lt BK.out
          have hne2 : ¬ (w.heap.size = wr.heap.size) := Nat.ne_of_lt hsz2
          by_cases hlt2 : j < l0_4.length
          · obtain ⟨ad, A1, c1, e0, hx0, hx1, hl1, hi1⟩ := at_T61 HG.out.r4 (j : Int) (by omega) (by omega)
            cases e0
            simp only [Int.toNat_natCast] at hx0 hx1
            replace hx0 := (HB.out.cell (World.block_lt_of_cell? w _ hx0)).trans hx0
            replace hx1 := (HB.out.cell (World.block_lt_of_cell? w _ hx1)).trans hx1
            have HX1 := Aside0.mk (HX.out (l0_4[j]) (List.getElem_mem hlt2))
            have HR1 := HR.out
            rw [List.drop_eq_getElem_cons hlt2] at HR1
            have ex : l0_4[j] = rd_T61 l0_4 (j : Int) := by simp [rd_T61, List.getD_eq_getElem?_getD, List.getElem?_eq_getElem hlt2]
            rw [ex] at HR1 HX1
            simp only [levelsGo] at HR1
            obtain ⟨x, hx⟩ : ∃ x, x = rd_T61 l0_4 (j : Int) := ⟨_, rfl⟩
            rw [← hx] at HR1 HX1 hx0 hx1 hl1 hi1
            have HR2 := Aside0.mk HR1
            have HI := Aside0.mk hi1
            clear ex hx HR1 HR hi1
            by_cases h1 : 1 ≤ x.f0
            · by_cases h2 : x.f0 ≤ 4
              · have HR1 := HR2.out
                rw [if_pos ⟨h1, h2⟩] at HR1
                have HR3 := Aside0.mk HR1
                clear HR1 HR2
                have hxl : x.f1.length ≤ 1000000 := HX1.out.1
                have q1 : decide (x.f0 < 1) = false := decide_eq_false (by omega)
                have q2 : decide (4 < x.f0) = false := decide_eq_false (by omega)
                go_wp2_with fail
                obtain ⟨wq, rfl⟩ : ∃ wq : World, wq = wr := ⟨_, rfl⟩
                go_loopw [65] (fun v65 wr => ∃ (i m : Nat) (met : Int → Bool), i ≤ x.f1.length ∧ v65 = .int .i64 i ∧ Aside0 (Cap m j i) ∧ (∃ D : DataW Unit, Aside0 (wr.ownsMap Tryd.prog 3 (plainElem Tryd.prog 3) wo.heap.size m D) ∧ Aside0 (MM D met)) ∧ Aside0 ((match termsGo l0_0.length met (x.f1.drop i) with | none => 24 | some m => levelsGo l0_0.length m (l0_4.drop (j + 1))) = r) ∧ Aside0 (GB wr w.heap.size A0_0 c0_0 l0_0 A0_1 c0_1 l0_1 A0_2 c0_2 l0_2 A0_3 c0_3 l0_3 _ c0_4 l0_4) ∧ Aside0 (Below w.heap.size w wr))
                  (fun v65 _ => x.f1.length - (intOf v65).toNat)
                case atStart => exact ⟨0, n, met, Nat.zero_le _, rfl, hn, ⟨D, ⟨HO.out.alloc _⟩, HD⟩, HR3, ⟨blk_alloc BK.out _⟩, ⟨below_alloc HB.out _⟩⟩
                case round =>
                  clear HR3 BK HB HO HD hx0 hx1 hcz0 hcz1 hcz2 hcz3 hcz4
                  obtain ⟨i, m, met, hi, rfl, hm, ⟨D, HO, HD⟩, HR, BK, HB⟩ := hrel
                  obtain ⟨hcz0, hcz1, hcz2, hcz3, hcz4⟩ := BK.out.cells
                  by_cases hlt : i < x.f1.length
                  · obtain ⟨ad, e0, hcell⟩ := Kd.at_int HI.out (i : Int) (by omega) (by omega)
                    cases e0
                    rw [Int.toNat_natCast] at hcell
                    replace hcell := (HB.out.cell (World.block_lt_of_cell? w _ hcell)).trans hcell
                    have HR1 := HR.out
                    rw [List.drop_eq_getElem_cons hlt, show x.f1[i] = rd x.f1 (i : Int) from by simp [rd, List.getD_eq_getElem?_getD, List.getElem?_eq_getElem hlt]] at HR1
                    have HW := Aside0.mk (HX1.out.2 (x.f1[i]) (List.getElem_mem hlt))
                    rw [show x.f1[i] = rd x.f1 (i : Int) from by simp [rd, List.getD_eq_getElem?_getD, List.getElem?_eq_getElem hlt]] at HW
                    simp only [termsGo] at HR1
                    generalize rd x.f1 (i : Int) = t at *
                    have HR2 := Aside0.mk HR1
                    clear HR1 HR
                    have ht1 : -9223372036854775808 ≤ t := HW.out.1
                    have ht2 : t ≤ 9223372036854775807 := HW.out.2
                    have hwt : (Lit.int .i64 t).wf = true := WalkArith.wf_i64 (by omega)
                    by_cases h3 : 2 ≤ t ∧ t ≤ (l0_0.length : Int) - 1
                    · have HWI : Aside0 (grammar_within.f t 2 ((l0_0.length : Int) - 1) = some true) := ⟨by unfold grammar_within.f; rw [if_pos (by omega)]; simp [h3.2]⟩
                      have HA0 := Aside0.mk (HD.out t)
                      cases hmt : met t with
                      | true =>
                        have HAT : Aside0 (D.atKey (.int .i64 t) (.lit (.int .i64 0)) = .lit (.int .i64 1)) := ⟨by rw [HA0.out, hmt]; rfl⟩
                        obtain rfl : r = 24 := by have := HR2.out; rw [if_neg (by simp [hmt])] at this; exact this.symm
                        clear hmt
                        go_wp2_with (first | (go_at_call 55; refine (grammar_within.calls _ _ _ true _ HWI.out).mono ?_; rintro e w' ⟨rfl, ⟨nd, rfl⟩⟩) | (at_lookup; refine gate_guard (by rfl) ?_; dsimp only; refine wpList_lookup_own_int _ rfl _ _ 79 rfl 3 3 .i64 law_int Tryd.underlying79 Tryd.underlying3 (zero_int _) wo.heap.size m _ rfl (owns_drewN HO.out nd) _ _ rfl (keyOf_int_mk Tryd.underlying3 hwt) ?_; intro c hat hwc; obtain rfl := lit_int_inj HAT.out hat; clear hat))
                        go_ret
                        exact ⟨rfl, pw_below_drewN HB.out _⟩
                      | false =>
                        have HAT : Aside0 (D.atKey (.int .i64 t) (.lit (.int .i64 0)) = .lit (.int .i64 0)) := ⟨by rw [HA0.out, hmt]; rfl⟩
                        have HR3 := HR2.out
                        rw [if_pos ⟨h3.1, h3.2, hmt⟩] at HR3
                        have HR4 := Aside0.mk HR3
                        have hml : m < maxLen := hm.out.lt hlt2 hT4 (by omega)
                        clear hmt HR3 HR2
                        go_wp2_with (first | (go_at_call 55; refine (grammar_within.calls _ _ _ true _ HWI.out).mono ?_; rintro e w' ⟨rfl, ⟨nd, rfl⟩⟩) | (at_lookup; refine gate_guard (by rfl) ?_; dsimp only; refine wpList_lookup_own_int _ rfl _ _ 79 rfl 3 3 .i64 law_int Tryd.underlying79 Tryd.underlying3 (zero_int _) wo.heap.size m _ rfl (owns_drewN HO.out nd) _ _ rfl (keyOf_int_mk Tryd.underlying3 hwt) ?_; intro c hat hwc; obtain rfl := lit_int_inj HAT.out hat; clear hat) | (at_mapUpdate; refine wpList_mapUpdate_own _ rfl _ _ _ 79 rfl 3 3 law_int Tryd.underlying79 _ wo.heap.size m _ rfl (owns_drewN HO.out _) hml _ _ _ rfl rfl (keyOf_int_mk Tryd.underlying3 hwt) _ [] (plainElem_int Tryd.underlying3 (WalkArith.wf_i64 (by omega))) ?_; intro w8 hown1 hgrow1))
                        have R1 := Aside0.mk hown1
                        have hwo : w.heap.size < wo.heap.size := hsz
                        have R2 := Aside0.mk ((pw_below_drewN HB.out _).grown hgrow1 HB.out.size (fun j hj => by cases hj; exact Nat.le_of_lt hwo))
                        have R3 := Aside0.mk (GB.grown (w := wr.drewN _) BK.out hgrow1 (by simpa using Nat.ne_of_lt hwo))
                        clear hown1 hgrow1 hcell hcz0 hcz1 hcz2 hcz3 hcz4
                        go_wp2_with fail
                        go_roundw
                        case rel => exact ⟨i + 1, m + 1, _, by omega, by go_num, ⟨hm.out.step⟩, ⟨_, R1, ⟨HD.out.put HO.out.isMap t⟩⟩, HR4, R3, R2⟩
                        case measure => simp [intOf]; omega
                    · have HWI : Aside0 (grammar_within.f t 2 ((l0_0.length : Int) - 1) = some false) := ⟨within_no h3⟩
                      obtain rfl : r = 24 := by have := HR2.out; rw [if_neg (fun z => h3 ⟨z.1, z.2.1⟩)] at this; exact this.symm
                      go_wp2_with (go_at_call 55; refine (grammar_within.calls _ _ _ false _ HWI.out).mono ?_; rintro e w' ⟨rfl, ⟨nd, rfl⟩⟩)
                      go_ret
                      exact ⟨rfl, pw_below_drewN HB.out _⟩
                  · have hie : i = x.f1.length := by omega
                    have HR1 := HR.out
                    rw [hie, List.drop_of_length_le (Nat.le_refl _)] at HR1
                    simp only [termsGo] at HR1
                    have HR4 := Aside0.mk HR1
                    have hn2 : Aside0 (Cap m (j + 1) 0) := ⟨hm.out.next (by omega)⟩
                    clear HR1 HR hie
                    go_wp2_with fail
                    go_roundw
                    case rel => exact ⟨j + 1, m, met, by omega, by go_num, hn2, ⟨D, HO, HD⟩, HR4, BK, HB⟩
                    case measure => simp [intOf]; omega
              · obtain rfl : r = 24 := by have := HR2.out; rw [if_neg (fun z => h2 z.2)] at this; exact this.symm
                have q1 : decide (x.f0 < 1) = false := decide_eq_false (by omega)
                have q2 : decide (4 < x.f0) = true := decide_eq_true (by omega)
                go_wp2_with fail
                go_ret
                exact ⟨rfl, below_alloc HB.out _⟩
            · obtain rfl : r = 24 := by have := HR2.out; rw [if_neg (fun z => h1 z.1)] at this; exact this.symm
              have q1 : decide (x.f0 < 1) = true := decide_eq_true (by omega)
              go_wp2_with fail
              go_ret
              exact ⟨rfl, below_alloc HB.out _⟩
          · have hje : j = l0_4.length := by omega
            obtain rfl : r = 0 := by have := HR.out; rw [hje, List.drop_of_length_le (Nat.le_refl _)] at this; simpa [levelsGo] using this.symm
            go_wp2_with fail
            go_ret
            exact ⟨rfl, HB.out⟩
end Go.Proofs.YtphmgaijkdflnaaDoor.H
end
section
namespace Go.Proofs.YtphmgaijkdflnaaDoor.H
open Go.RowKit Go.Proofs.YtphmgaijkdflnaaDoorW.PrintWords Go.Proofs.YtphmgaijkdflnaaDoorW.PrintLast Go.Proofs.YtphmgaijkdflnaaDoorW.PrintMore
attribute [local go_sem] max2_int min2_int max_two min_two max_three min_three max_four min_four
set_option linter.unusedVariables false
set_option linter.unusedSimpArgs false
def cst_rightLead.l0 : Nat → List (S46) → Int → Int → List ByteArray → List ByteArray → List Int → List (S58) → List (S61) → Option (Bool)
 | 0, _, _, _, _, _, _, _, _ => none
 | k + 1, x8, x9, x10, x136000, x136001, x136002, x136003, x136004 => if x10 < x9 then (if 0 ≤ x10 then (if x10 < (x8.length : Int) then (if ((rd_T46 x8 x10).f0) = 1 then (if ((rd_T46 x8 x10).f1) ≥ 0 then (if ((rd_T46 x8 x10).f2).toList = ([] : List UInt8) then (some false) else (cst_rightLead.l0 k x8 x9 (wrap64 (x10 + 1)) x136000 x136001 x136002 x136003 x136004)) else (if ((rd_T46 x8 x10).f0) = 2 then (if ((rd_T46 x8 x10).f1) = (-1) then (if ((rd_T46 x8 x10).f2).toList = ([] : List UInt8) then (some false) else (cst_rightLead.l0 k x8 x9 (wrap64 (x10 + 1)) x136000 x136001 x136002 x136003 x136004)) else (if ((rd_T46 x8 x10).f0) = 3 then (if ((rd_T46 x8 x10).f1) ≥ 2 then (if (((rd_T46 x8 x10).f1) < (x136000.length : Int)) then (if ((rd_T46 x8 x10).f2).toList = ([] : List UInt8) then (some false) else (cst_rightLead.l0 k x8 x9 (wrap64 (x10 + 1)) x136000 x136001 x136002 x136003 x136004)) else (some false)) else (some false)) else (some false))) else (if ((rd_T46 x8 x10).f0) = 3 then (if ((rd_T46 x8 x10).f1) ≥ 2 then (if (((rd_T46 x8 x10).f1) < (x136000.length : Int)) then (if ((rd_T46 x8 x10).f2).toList = ([] : List UInt8) then (some false) else (cst_rightLead.l0 k x8 x9 (wrap64 (x10 + 1)) x136000 x136001 x136002 x136003 x136004)) else (some false)) else (some false)) else (some false)))) else (if ((rd_T46 x8 x10).f0) = 2 then (if ((rd_T46 x8 x10).f1) = (-1) then (if ((rd_T46 x8 x10).f2).toList = ([] : List UInt8) then (some false) else (cst_rightLead.l0 k x8 x9 (wrap64 (x10 + 1)) x136000 x136001 x136002 x136003 x136004)) else (if ((rd_T46 x8 x10).f0) = 3 then (if ((rd_T46 x8 x10).f1) ≥ 2 then (if (((rd_T46 x8 x10).f1) < (x136000.length : Int)) then (if ((rd_T46 x8 x10).f2).toList = ([] : List UInt8) then (some false) else (cst_rightLead.l0 k x8 x9 (wrap64 (x10 + 1)) x136000 x136001 x136002 x136003 x136004)) else (some false)) else (some false)) else (some false))) else (if ((rd_T46 x8 x10).f0) = 3 then (if ((rd_T46 x8 x10).f1) ≥ 2 then (if (((rd_T46 x8 x10).f1) < (x136000.length : Int)) then (if ((rd_T46 x8 x10).f2).toList = ([] : List UInt8) then (some false) else (cst_rightLead.l0 k x8 x9 (wrap64 (x10 + 1)) x136000 x136001 x136002 x136003 x136004)) else (some false)) else (some false)) else (some false)))) else (none)) else (none)) else (some true)
def cst_rightLead.f (k : Nat) (l0_0 : List ByteArray) (l0_1 : List ByteArray) (l0_2 : List Int) (l0_3 : List (S58)) (l0_4 : List (S61)) (l1 : List (S46)) : Option (Bool) := cst_rightLead.l0 k l1 (l1.length : Int) 0 l0_0 l0_1 l0_2 l0_3 l0_4
theorem cst_rightLead.mono_l : ∀ k, (∀ y0 y1 y2 y3 y4 y5 y6 y7, LeO (cst_rightLead.l0 k y0 y1 y2 y3 y4 y5 y6 y7) (cst_rightLead.l0 (k + 1) y0 y1 y2 y3 y4 y5 y6 y7))
 | 0 => fun _ _ _ _ _ _ _ _ r h => by simp [cst_rightLead.l0] at h
 | k + 1 => by
  have ih0 := cst_rightLead.mono_l k
  ·intro y0 y1 y2 y3 y4 y5 y6 y7
   unfold cst_rightLead.l0
   repeat' first
   | (with_reducible exact ih0 _ _ _ _ _ _ _ _)
   | (with_reducible exact LeO.refl _)
   | (with_reducible exact LeO.none _)
   | (with_reducible refine LeO.ite ?_ ?_)
   | (with_reducible refine LeO.bind ?_ (fun _ => ?_))
   | exact ih0 _ _ _ _ _ _ _ _
   | exact LeO.none _
   | refine LeO.ite ?_ ?_
   | refine LeO.bind ?_ (fun _ => ?_)
theorem cst_rightLead.mono : ∀ a0 a1 a2 a3 a4 a5 k, LeO (cst_rightLead.f k a0 a1 a2 a3 a4 a5) (cst_rightLead.f (k + 1) a0 a1 a2 a3 a4 a5) := by
 (intro a0 a1 a2 a3 a4 a5 k); (have ih0 := cst_rightLead.mono_l k); (unfold cst_rightLead.f)
 repeat' first
   | (with_reducible exact ih0 _ _ _ _ _ _ _ _)
   | (with_reducible exact LeO.refl _)
   | (with_reducible exact LeO.none _)
   | (with_reducible refine LeO.ite ?_ ?_)
   | (with_reducible refine LeO.bind ?_ (fun _ => ?_))
   | exact ih0 _ _ _ _ _ _ _ _
   | exact LeO.none _
   | refine LeO.ite ?_ ?_
   | refine LeO.bind ?_ (fun _ => ?_)
set_option maxHeartbeats 8000000 in
set_option maxRecDepth 100000 in
theorem cst_rightLead.calls (k : Nat) (A0_0 : Option Addr) (c0_0 : Nat) (l0_0 : List ByteArray) (A0_1 : Option Addr) (c0_1 : Nat) (l0_1 : List ByteArray) (A0_2 : Option Addr) (c0_2 : Nat) (l0_2 : List Int) (A0_3 : Option Addr) (c0_3 : Nat) (l0_3 : List (S58)) (A0_4 : Option Addr) (c0_4 : Nat) (l0_4 : List (S61)) (A1 : Option Addr) (c1 : Nat) (l1 : List (S46)) (r : Bool) (w : World) (hr0_0 : Kd.C Kd.string w A0_0 l0_0.length l0_0) (hc0_0 : l0_0.length ≤ c0_0) (hr0_1 : Kd.C Kd.string w A0_1 l0_1.length l0_1) (hc0_1 : l0_1.length ≤ c0_1) (hr0_2 : Kd.C (Kd.int .i64) w A0_2 l0_2.length l0_2) (hc0_2 : l0_2.length ≤ c0_2) (hr0_3 : Kd.C k58 w A0_3 l0_3.length l0_3) (hc0_3 : l0_3.length ≤ c0_3) (hr0_4 : Kd.C k61 w A0_4 l0_4.length l0_4) (hc0_4 : l0_4.length ≤ c0_4) (hr1 : Kd.C k46 w A1 l1.length l1) (hc1 : l1.length ≤ c1) (h : cst_rightLead.f k l0_0 l0_1 l0_2 l0_3 l0_4 l1 = some r) :
  Calls Tryd.prog 56 #[.agg #[.slice A0_0 l0_0.length c0_0, .slice A0_1 l0_1.length c0_1, .slice A0_2 l0_2.length c0_2, .slice A0_3 l0_3.length c0_3, .slice A0_4 l0_4.length c0_4], .slice A1 l1.length c1] w fun e w' => e = .returned (.bool r) ∧ Below w.heap.size w w' := by
 (have hu40 := Tryd.underlying40); (have hu46 := Tryd.underlying46); (have HR0_0 := qM hr0_0); (have HC0_0 := qM hc0_0); clear hr0_0 hc0_0; (have HR0_1 := qM hr0_1); (have HC0_1 := qM hc0_1); clear hr0_1 hc0_1; (have HR0_2 := qM hr0_2); (have HC0_2 := qM hc0_2); clear hr0_2 hc0_2; (have HR0_3 := qM hr0_3); (have HC0_3 := qM hc0_3); clear hr0_3 hc0_3; (have HR0_4 := qM hr0_4); (have HC0_4 := qM hc0_4); clear hr0_4 hc0_4; (have HR1 := qM hr1); (have HC1 := qM hc1); clear hr1 hc1; (have HB := qM (Below.refl w.heap.size w)); (have H : (cst_rightLead.l0 k l1 (l1.length : Int) 0 l0_0 l0_1 l0_2 l0_3 l0_4) = some r := h); clear h; (have H' := qM H); clear H; (go_enter Tryd.func56, Tryd.ntmps56)
 go_wp2_with (first | ((with_reducible refine gate_dst (N := 2) rfl ?_); (try (refine gate_guard (by rfl) ?_; dsimp only)); refine box_event ?hg (N := 2) ?hd (cs := #[.slice A0_0 l0_0.length c0_0, .slice A0_1 l0_1.length c0_1, .slice A0_2 l0_2.length c0_2, .slice A0_3 l0_3.length c0_3, .slice A0_4 l0_4.length c0_4]) (t := 40) ?hr ?_; (case hd => rfl); (case hg => rfl); (case hr => first | (go_simp; done) | (go_simp; rfl)); intro gb135 hg w3 hbox hb; have n0_ := qM (qP qF hb); have n1_ := qM (hbox); have n2_ := qM ((by rw [hg]; exact (qZ qF) : w.heap.size ≤ gb135)); have n3_ := qM ((by rw [hg]; exact (qZ qF) : w.heap.size ≤ gb135)); clear HB; have HB := n0_; have BK135 := n1_; have GW135 := n2_; have GE135 := n3_; clear n0_ n1_ n2_ n3_; clear hb hbox hg))
 go_loopg [10] k (fun kq v10 w' => ∃ (x10_1 : Int), v10 = .int .i64 x10_1 ∧ Aside0 (cst_rightLead.l0 kq l1 (l1.length : Int) x10_1 l0_0 l0_1 l0_2 l0_3 l0_4 = some r) ∧ Aside0 (kq ≤ k) ∧ Aside0 (w'.heap[gb135]? = some (.cells #[(.slice A0_0 l0_0.length c0_0), (.slice A0_1 l0_1.length c0_1), (.slice A0_2 l0_2.length c0_2), (.slice A0_3 l0_3.length c0_3), (.slice A0_4 l0_4.length c0_4)] 40 (0, 0))) ∧ Aside0 (Below w.heap.size w w'))
 case atStart => exact ⟨(0), qV, H', ⟨Nat.le_refl _⟩, ⟨qK⟩, ⟨qF⟩⟩
 case round =>
  (clear H'); (try clear c1); (try clear p2); (obtain ⟨x10_1, rfl, HA, HK1, BK135, HB⟩ := hrel)
  cases gk with
  | zero => exact absurd HA.out (by simp [cst_rightLead.l0])
  | succ k1 =>
   (have H := HA.out); clear HA; (simp only [cst_rightLead.l0] at H); (by_cases c4 : x10_1 < (l1.length : Int))
   ·rw [if_pos c4] at H
    (have c4b0 : decide (x10_1 < (l1.length : Int)) = true := decide_eq_true c4); clear c4; (by_cases c5 : 0 ≤ x10_1)
    ·rw [if_pos c5] at H
     (have c5b0 : decide (0 ≤ x10_1) = true := decide_eq_true c5); clear c5; (by_cases c6 : x10_1 < (l1.length : Int))
     ·rw [if_pos c6] at H
      (have c6b0 : decide (x10_1 < (l1.length : Int)) = true := decide_eq_true c6); clear c6; (by_cases c7 : ((rd_T46 l1 x10_1).f0) = 1)
      ·rw [if_pos c7] at H
       (have c7b0 : (((rd_T46 l1 x10_1).f0) == 1) = true := beq_iff_eq.mpr c7); (have c7b1 : (((rd_T46 l1 x10_1).f0) != 1) = false := bne_eq_false_iff_eq.mpr c7); clear c7; (by_cases c8 : ((rd_T46 l1 x10_1).f1) ≥ 0)
       ·rw [if_pos c8] at H
        (have c8b0 : decide (0 ≤ ((rd_T46 l1 x10_1).f1)) = true := decide_eq_true c8); clear c8; (by_cases c9 : ((rd_T46 l1 x10_1).f2).toList = ([] : List UInt8))
        ·rw [if_pos c9] at H
         (have c9b0 : (((rd_T46 l1 x10_1).f2).toList == ([] : List UInt8)) = true := beq_iff_eq.mpr c9); (have c9b1 : (((rd_T46 l1 x10_1).f2).toList != ([] : List UInt8)) = false := bne_eq_false_iff_eq.mpr c9); clear c9; (obtain rfl := Option.some.inj H); (have p136 : 0 ≤ (x10_1 : Int) := qo qX); (have q136 : x10_1 < (l1.length : Int) := qo qX); (obtain ⟨ad136, e136, hx136_0, hx136_1, hx136_2⟩ := at_T46 HR1.out x10_1 p136 q136)
         cases e136
         (replace hx136_0 := (HB.out.cell (qB w _ hx136_0)).trans hx136_0); (replace hx136_1 := (HB.out.cell (qB w _ hx136_1)).trans hx136_1); (replace hx136_2 := (HB.out.cell (qB w _ hx136_2)).trans hx136_2); (replace p136 := eq_true p136); (replace q136 := eq_true q136)
         go_wp2_with (first | ((with_reducible refine gate_dst (N := 6) rfl ?_); (try (refine gate_guard (by rfl) ?_; dsimp only)); refine box_event ?hg (N := 6) ?hd (cs := #[.int .i64 0, .int .i64 0, .string (⟨#[]⟩ : ByteArray)]) (t := 46) ?hr ?_; (case hd => rfl); (case hg => rfl); (case hr => first | (go_simp; done) | (go_simp; rfl)); intro gb137 hg w10 hbox hb; have n0_ := qM (qb (g := gb135) qK hb); have n1_ := qM (qP qF hb); have n2_ := qM (hbox); have n3_ := qM ((by rw [hg]; exact (qZ qF) : w.heap.size ≤ gb137)); have n4_ := qM ((by rw [hg]; exact (qZ qF) : w.heap.size ≤ gb137)); have n5_ := qM ((by rw [hg]; exact Nat.ne_of_lt (ql (g := gb135) qK) : gb135 ≠ gb137)); have n6_ := qM ((by rw [hg]; exact Nat.ne_of_gt (ql (g := gb135) qK) : gb137 ≠ gb135)); clear BK135; clear HB; have BK135 := n0_; have HB := n1_; have BK137 := n2_; have GW137 := n3_; have GE137 := n4_; have NB135_137 := n5_; have NB137_135 := n6_; clear n0_ n1_ n2_ n3_ n4_ n5_ n6_; clear hb hbox hg; have hnb11 := NB137_135.out; have hnc11 := NB135_137.out; obtain ⟨hcz12_0, hcz12_1, hcz12_2, hfz12_0, hfz12_1, hfz12_2⟩ := bx3 BK137.out))
         (go_ret); (exact ⟨qE, qF⟩)
        ·rw [if_neg c9] at H
         (have c9b0 : (((rd_T46 l1 x10_1).f2).toList == ([] : List UInt8)) = false := beq_eq_false_iff_ne.mpr c9); (have c9b1 : (((rd_T46 l1 x10_1).f2).toList != ([] : List UInt8)) = true := bne_iff_ne.mpr c9); (have H' := qM H); clear H; (have p136 : 0 ≤ (x10_1 : Int) := qo qX); (have q136 : x10_1 < (l1.length : Int) := qo qX); (obtain ⟨ad136, e136, hx136_0, hx136_1, hx136_2⟩ := at_T46 HR1.out x10_1 p136 q136)
         cases e136
         (replace hx136_0 := (HB.out.cell (qB w _ hx136_0)).trans hx136_0); (replace hx136_1 := (HB.out.cell (qB w _ hx136_1)).trans hx136_1); (replace hx136_2 := (HB.out.cell (qB w _ hx136_2)).trans hx136_2); (replace p136 := eq_true p136); (replace q136 := eq_true q136)
         go_wp2_with (first | ((with_reducible refine gate_dst (N := 6) rfl ?_); (try (refine gate_guard (by rfl) ?_; dsimp only)); refine box_event ?hg (N := 6) ?hd (cs := #[.int .i64 0, .int .i64 0, .string (⟨#[]⟩ : ByteArray)]) (t := 46) ?hr ?_; (case hd => rfl); (case hg => rfl); (case hr => first | (go_simp; done) | (go_simp; rfl)); intro gb137 hg w13 hbox hb; have n0_ := qM (qb (g := gb135) qK hb); have n1_ := qM (qP qF hb); have n2_ := qM (hbox); have n3_ := qM ((by rw [hg]; exact (qZ qF) : w.heap.size ≤ gb137)); have n4_ := qM ((by rw [hg]; exact (qZ qF) : w.heap.size ≤ gb137)); have n5_ := qM ((by rw [hg]; exact Nat.ne_of_lt (ql (g := gb135) qK) : gb135 ≠ gb137)); have n6_ := qM ((by rw [hg]; exact Nat.ne_of_gt (ql (g := gb135) qK) : gb137 ≠ gb135)); clear BK135; clear HB; have BK135 := n0_; have HB := n1_; have BK137 := n2_; have GW137 := n3_; have GE137 := n4_; have NB135_137 := n5_; have NB137_135 := n6_; clear n0_ n1_ n2_ n3_ n4_ n5_ n6_; clear hb hbox hg; have hnb14 := NB137_135.out; have hnc14 := NB135_137.out; obtain ⟨hcz15_0, hcz15_1, hcz15_2, hfz15_0, hfz15_1, hfz15_2⟩ := bx3 BK137.out))
         go_roundg k1
         case measure => have := HK1.out; omega
         case rel => exact ⟨(wrap64 (x10_1 + 1)), qV, H', ⟨by have := HK1.out; omega⟩, ⟨by (with_reducible repeat (first | refine qn ?_ _ | refine qd ?_ | refine qa ?_ _)); refine qf ?_ NB135_137.out _; (with_reducible repeat (first | refine qn ?_ _ | refine qd ?_ | refine qa ?_ _)); refine qf ?_ NB135_137.out _; (with_reducible repeat (first | refine qn ?_ _ | refine qd ?_ | refine qa ?_ _)); refine qf ?_ NB135_137.out _; (with_reducible repeat (first | refine qn ?_ _ | refine qd ?_ | refine qa ?_ _)); exact BK135.out⟩, ⟨qF⟩⟩
       ·rw [if_neg c8] at H
        (have c8b0 : decide (0 ≤ ((rd_T46 l1 x10_1).f1)) = false := decide_eq_false c8); clear c8; (by_cases c16 : ((rd_T46 l1 x10_1).f0) = 2)
        ·rw [if_pos c16] at H
         (have c16b0 : (((rd_T46 l1 x10_1).f0) == 2) = true := beq_iff_eq.mpr c16); (have c16b1 : (((rd_T46 l1 x10_1).f0) != 2) = false := bne_eq_false_iff_eq.mpr c16); clear c16; (by_cases c17 : ((rd_T46 l1 x10_1).f1) = (-1))
         ·rw [if_pos c17] at H
          (have c17b0 : (((rd_T46 l1 x10_1).f1) == (-1)) = true := beq_iff_eq.mpr c17); (have c17b1 : (((rd_T46 l1 x10_1).f1) != (-1)) = false := bne_eq_false_iff_eq.mpr c17); clear c17; (by_cases c18 : ((rd_T46 l1 x10_1).f2).toList = ([] : List UInt8))
          ·rw [if_pos c18] at H
           (have c18b0 : (((rd_T46 l1 x10_1).f2).toList == ([] : List UInt8)) = true := beq_iff_eq.mpr c18); (have c18b1 : (((rd_T46 l1 x10_1).f2).toList != ([] : List UInt8)) = false := bne_eq_false_iff_eq.mpr c18); clear c18; (obtain rfl := Option.some.inj H); (have p136 : 0 ≤ (x10_1 : Int) := qo qX); (have q136 : x10_1 < (l1.length : Int) := qo qX); (obtain ⟨ad136, e136, hx136_0, hx136_1, hx136_2⟩ := at_T46 HR1.out x10_1 p136 q136)
           cases e136
           (replace hx136_0 := (HB.out.cell (qB w _ hx136_0)).trans hx136_0); (replace hx136_1 := (HB.out.cell (qB w _ hx136_1)).trans hx136_1); (replace hx136_2 := (HB.out.cell (qB w _ hx136_2)).trans hx136_2); (replace p136 := eq_true p136); (replace q136 := eq_true q136)
           go_wp2_with (first | ((with_reducible refine gate_dst (N := 6) rfl ?_); (try (refine gate_guard (by rfl) ?_; dsimp only)); refine box_event ?hg (N := 6) ?hd (cs := #[.int .i64 0, .int .i64 0, .string (⟨#[]⟩ : ByteArray)]) (t := 46) ?hr ?_; (case hd => rfl); (case hg => rfl); (case hr => first | (go_simp; done) | (go_simp; rfl)); intro gb137 hg w19 hbox hb; have n0_ := qM (qb (g := gb135) qK hb); have n1_ := qM (qP qF hb); have n2_ := qM (hbox); have n3_ := qM ((by rw [hg]; exact (qZ qF) : w.heap.size ≤ gb137)); have n4_ := qM ((by rw [hg]; exact (qZ qF) : w.heap.size ≤ gb137)); have n5_ := qM ((by rw [hg]; exact Nat.ne_of_lt (ql (g := gb135) qK) : gb135 ≠ gb137)); have n6_ := qM ((by rw [hg]; exact Nat.ne_of_gt (ql (g := gb135) qK) : gb137 ≠ gb135)); clear BK135; clear HB; have BK135 := n0_; have HB := n1_; have BK137 := n2_; have GW137 := n3_; have GE137 := n4_; have NB135_137 := n5_; have NB137_135 := n6_; clear n0_ n1_ n2_ n3_ n4_ n5_ n6_; clear hb hbox hg; have hnb20 := NB137_135.out; have hnc20 := NB135_137.out; obtain ⟨hcz21_0, hcz21_1, hcz21_2, hfz21_0, hfz21_1, hfz21_2⟩ := bx3 BK137.out))
           (go_ret); (exact ⟨qE, qF⟩)
          ·rw [if_neg c18] at H
           (have c18b0 : (((rd_T46 l1 x10_1).f2).toList == ([] : List UInt8)) = false := beq_eq_false_iff_ne.mpr c18); (have c18b1 : (((rd_T46 l1 x10_1).f2).toList != ([] : List UInt8)) = true := bne_iff_ne.mpr c18); (have H' := qM H); clear H; (have p136 : 0 ≤ (x10_1 : Int) := qo qX); (have q136 : x10_1 < (l1.length : Int) := qo qX); (obtain ⟨ad136, e136, hx136_0, hx136_1, hx136_2⟩ := at_T46 HR1.out x10_1 p136 q136)
           cases e136
           (replace hx136_0 := (HB.out.cell (qB w _ hx136_0)).trans hx136_0); (replace hx136_1 := (HB.out.cell (qB w _ hx136_1)).trans hx136_1); (replace hx136_2 := (HB.out.cell (qB w _ hx136_2)).trans hx136_2); (replace p136 := eq_true p136); (replace q136 := eq_true q136)
           go_wp2_with (first | ((with_reducible refine gate_dst (N := 6) rfl ?_); (try (refine gate_guard (by rfl) ?_; dsimp only)); refine box_event ?hg (N := 6) ?hd (cs := #[.int .i64 0, .int .i64 0, .string (⟨#[]⟩ : ByteArray)]) (t := 46) ?hr ?_; (case hd => rfl); (case hg => rfl); (case hr => first | (go_simp; done) | (go_simp; rfl)); intro gb137 hg w22 hbox hb; have n0_ := qM (qb (g := gb135) qK hb); have n1_ := qM (qP qF hb); have n2_ := qM (hbox); have n3_ := qM ((by rw [hg]; exact (qZ qF) : w.heap.size ≤ gb137)); have n4_ := qM ((by rw [hg]; exact (qZ qF) : w.heap.size ≤ gb137)); have n5_ := qM ((by rw [hg]; exact Nat.ne_of_lt (ql (g := gb135) qK) : gb135 ≠ gb137)); have n6_ := qM ((by rw [hg]; exact Nat.ne_of_gt (ql (g := gb135) qK) : gb137 ≠ gb135)); clear BK135; clear HB; have BK135 := n0_; have HB := n1_; have BK137 := n2_; have GW137 := n3_; have GE137 := n4_; have NB135_137 := n5_; have NB137_135 := n6_; clear n0_ n1_ n2_ n3_ n4_ n5_ n6_; clear hb hbox hg; have hnb23 := NB137_135.out; have hnc23 := NB135_137.out; obtain ⟨hcz24_0, hcz24_1, hcz24_2, hfz24_0, hfz24_1, hfz24_2⟩ := bx3 BK137.out))
           go_roundg k1
           case measure => have := HK1.out; omega
           case rel => exact ⟨(wrap64 (x10_1 + 1)), qV, H', ⟨by have := HK1.out; omega⟩, ⟨by (with_reducible repeat (first | refine qn ?_ _ | refine qd ?_ | refine qa ?_ _)); refine qf ?_ NB135_137.out _; (with_reducible repeat (first | refine qn ?_ _ | refine qd ?_ | refine qa ?_ _)); refine qf ?_ NB135_137.out _; (with_reducible repeat (first | refine qn ?_ _ | refine qd ?_ | refine qa ?_ _)); refine qf ?_ NB135_137.out _; (with_reducible repeat (first | refine qn ?_ _ | refine qd ?_ | refine qa ?_ _)); exact BK135.out⟩, ⟨qF⟩⟩
         ·rw [if_neg c17] at H
          (have c17b0 : (((rd_T46 l1 x10_1).f1) == (-1)) = false := beq_eq_false_iff_ne.mpr c17); (have c17b1 : (((rd_T46 l1 x10_1).f1) != (-1)) = true := bne_iff_ne.mpr c17); (by_cases c25 : ((rd_T46 l1 x10_1).f0) = 3)
          ·rw [if_pos c25] at H
           (have c25b0 : (((rd_T46 l1 x10_1).f0) == 3) = true := beq_iff_eq.mpr c25); (have c25b1 : (((rd_T46 l1 x10_1).f0) != 3) = false := bne_eq_false_iff_eq.mpr c25); clear c25; (by_cases c26 : ((rd_T46 l1 x10_1).f1) ≥ 2)
           ·rw [if_pos c26] at H
            (have c26b0 : decide (2 ≤ ((rd_T46 l1 x10_1).f1)) = true := decide_eq_true c26); clear c26; (by_cases c27 : (((rd_T46 l1 x10_1).f1) < (l0_0.length : Int)))
            ·rw [if_pos c27] at H
             (have c27b0 : decide (((rd_T46 l1 x10_1).f1) < (l0_0.length : Int)) = true := decide_eq_true c27); clear c27; (by_cases c28 : ((rd_T46 l1 x10_1).f2).toList = ([] : List UInt8))
             ·rw [if_pos c28] at H
              (have c28b0 : (((rd_T46 l1 x10_1).f2).toList == ([] : List UInt8)) = true := beq_iff_eq.mpr c28); (have c28b1 : (((rd_T46 l1 x10_1).f2).toList != ([] : List UInt8)) = false := bne_eq_false_iff_eq.mpr c28); clear c28; (obtain rfl := Option.some.inj H); (have p136 : 0 ≤ (x10_1 : Int) := qo qX); (have q136 : x10_1 < (l1.length : Int) := qo qX); (obtain ⟨ad136, e136, hx136_0, hx136_1, hx136_2⟩ := at_T46 HR1.out x10_1 p136 q136)
              cases e136
              (replace hx136_0 := (HB.out.cell (qB w _ hx136_0)).trans hx136_0); (replace hx136_1 := (HB.out.cell (qB w _ hx136_1)).trans hx136_1); (replace hx136_2 := (HB.out.cell (qB w _ hx136_2)).trans hx136_2); (replace p136 := eq_true p136); (replace q136 := eq_true q136)
              go_wp2_with (first | ((with_reducible refine gate_dst (N := 6) rfl ?_); (try (refine gate_guard (by rfl) ?_; dsimp only)); refine box_event ?hg (N := 6) ?hd (cs := #[.int .i64 0, .int .i64 0, .string (⟨#[]⟩ : ByteArray)]) (t := 46) ?hr ?_; (case hd => rfl); (case hg => rfl); (case hr => first | (go_simp; done) | (go_simp; rfl)); intro gb137 hg w29 hbox hb; have n0_ := qM (qb (g := gb135) qK hb); have n1_ := qM (qP qF hb); have n2_ := qM (hbox); have n3_ := qM ((by rw [hg]; exact (qZ qF) : w.heap.size ≤ gb137)); have n4_ := qM ((by rw [hg]; exact (qZ qF) : w.heap.size ≤ gb137)); have n5_ := qM ((by rw [hg]; exact Nat.ne_of_lt (ql (g := gb135) qK) : gb135 ≠ gb137)); have n6_ := qM ((by rw [hg]; exact Nat.ne_of_gt (ql (g := gb135) qK) : gb137 ≠ gb135)); clear BK135; clear HB; have BK135 := n0_; have HB := n1_; have BK137 := n2_; have GW137 := n3_; have GE137 := n4_; have NB135_137 := n5_; have NB137_135 := n6_; clear n0_ n1_ n2_ n3_ n4_ n5_ n6_; clear hb hbox hg; have hnb30 := NB137_135.out; have hnc30 := NB135_137.out; obtain ⟨hcz31_0, hcz31_1, hcz31_2, hfz31_0, hfz31_1, hfz31_2⟩ := bx3 BK137.out; obtain ⟨hcz32_0, hcz32_1, hcz32_2, hcz32_3, hcz32_4, hfz32_0, hfz32_1, hfz32_2, hfz32_3, hfz32_4⟩ := bx5 BK135.out))
              (go_ret); (exact ⟨qE, qF⟩)
             ·rw [if_neg c28] at H
              (have c28b0 : (((rd_T46 l1 x10_1).f2).toList == ([] : List UInt8)) = false := beq_eq_false_iff_ne.mpr c28); (have c28b1 : (((rd_T46 l1 x10_1).f2).toList != ([] : List UInt8)) = true := bne_iff_ne.mpr c28); (have H' := qM H); clear H; (have p136 : 0 ≤ (x10_1 : Int) := qo qX); (have q136 : x10_1 < (l1.length : Int) := qo qX); (obtain ⟨ad136, e136, hx136_0, hx136_1, hx136_2⟩ := at_T46 HR1.out x10_1 p136 q136)
              cases e136
              (replace hx136_0 := (HB.out.cell (qB w _ hx136_0)).trans hx136_0); (replace hx136_1 := (HB.out.cell (qB w _ hx136_1)).trans hx136_1); (replace hx136_2 := (HB.out.cell (qB w _ hx136_2)).trans hx136_2); (replace p136 := eq_true p136); (replace q136 := eq_true q136)
              go_wp2_with (first | ((with_reducible refine gate_dst (N := 6) rfl ?_); (try (refine gate_guard (by rfl) ?_; dsimp only)); refine box_event ?hg (N := 6) ?hd (cs := #[.int .i64 0, .int .i64 0, .string (⟨#[]⟩ : ByteArray)]) (t := 46) ?hr ?_; (case hd => rfl); (case hg => rfl); (case hr => first | (go_simp; done) | (go_simp; rfl)); intro gb137 hg w33 hbox hb; have n0_ := qM (qb (g := gb135) qK hb); have n1_ := qM (qP qF hb); have n2_ := qM (hbox); have n3_ := qM ((by rw [hg]; exact (qZ qF) : w.heap.size ≤ gb137)); have n4_ := qM ((by rw [hg]; exact (qZ qF) : w.heap.size ≤ gb137)); have n5_ := qM ((by rw [hg]; exact Nat.ne_of_lt (ql (g := gb135) qK) : gb135 ≠ gb137)); have n6_ := qM ((by rw [hg]; exact Nat.ne_of_gt (ql (g := gb135) qK) : gb137 ≠ gb135)); clear BK135; clear HB; have BK135 := n0_; have HB := n1_; have BK137 := n2_; have GW137 := n3_; have GE137 := n4_; have NB135_137 := n5_; have NB137_135 := n6_; clear n0_ n1_ n2_ n3_ n4_ n5_ n6_; clear hb hbox hg; have hnb34 := NB137_135.out; have hnc34 := NB135_137.out; obtain ⟨hcz35_0, hcz35_1, hcz35_2, hfz35_0, hfz35_1, hfz35_2⟩ := bx3 BK137.out; obtain ⟨hcz36_0, hcz36_1, hcz36_2, hcz36_3, hcz36_4, hfz36_0, hfz36_1, hfz36_2, hfz36_3, hfz36_4⟩ := bx5 BK135.out))
              go_roundg k1
              case measure => have := HK1.out; omega
              case rel => exact ⟨(wrap64 (x10_1 + 1)), qV, H', ⟨by have := HK1.out; omega⟩, ⟨by (with_reducible repeat (first | refine qn ?_ _ | refine qd ?_ | refine qa ?_ _)); refine qf ?_ NB135_137.out _; (with_reducible repeat (first | refine qn ?_ _ | refine qd ?_ | refine qa ?_ _)); refine qf ?_ NB135_137.out _; (with_reducible repeat (first | refine qn ?_ _ | refine qd ?_ | refine qa ?_ _)); refine qf ?_ NB135_137.out _; (with_reducible repeat (first | refine qn ?_ _ | refine qd ?_ | refine qa ?_ _)); exact BK135.out⟩, ⟨qF⟩⟩
            ·rw [if_neg c27] at H
             (have c27b0 : decide (((rd_T46 l1 x10_1).f1) < (l0_0.length : Int)) = false := decide_eq_false c27); clear c27; (obtain rfl := Option.some.inj H); (have p136 : 0 ≤ (x10_1 : Int) := qo qX); (have q136 : x10_1 < (l1.length : Int) := qo qX); (obtain ⟨ad136, e136, hx136_0, hx136_1, hx136_2⟩ := at_T46 HR1.out x10_1 p136 q136)
             cases e136
             (replace hx136_0 := (HB.out.cell (qB w _ hx136_0)).trans hx136_0); (replace hx136_1 := (HB.out.cell (qB w _ hx136_1)).trans hx136_1); (replace hx136_2 := (HB.out.cell (qB w _ hx136_2)).trans hx136_2); (replace p136 := eq_true p136); (replace q136 := eq_true q136)
             go_wp2_with (first | ((with_reducible refine gate_dst (N := 6) rfl ?_); (try (refine gate_guard (by rfl) ?_; dsimp only)); refine box_event ?hg (N := 6) ?hd (cs := #[.int .i64 0, .int .i64 0, .string (⟨#[]⟩ : ByteArray)]) (t := 46) ?hr ?_; (case hd => rfl); (case hg => rfl); (case hr => first | (go_simp; done) | (go_simp; rfl)); intro gb137 hg w37 hbox hb; have n0_ := qM (qb (g := gb135) qK hb); have n1_ := qM (qP qF hb); have n2_ := qM (hbox); have n3_ := qM ((by rw [hg]; exact (qZ qF) : w.heap.size ≤ gb137)); have n4_ := qM ((by rw [hg]; exact (qZ qF) : w.heap.size ≤ gb137)); have n5_ := qM ((by rw [hg]; exact Nat.ne_of_lt (ql (g := gb135) qK) : gb135 ≠ gb137)); have n6_ := qM ((by rw [hg]; exact Nat.ne_of_gt (ql (g := gb135) qK) : gb137 ≠ gb135)); clear BK135; clear HB; have BK135 := n0_; have HB := n1_; have BK137 := n2_; have GW137 := n3_; have GE137 := n4_; have NB135_137 := n5_; have NB137_135 := n6_; clear n0_ n1_ n2_ n3_ n4_ n5_ n6_; clear hb hbox hg; have hnb38 := NB137_135.out; have hnc38 := NB135_137.out; obtain ⟨hcz39_0, hcz39_1, hcz39_2, hfz39_0, hfz39_1, hfz39_2⟩ := bx3 BK137.out; obtain ⟨hcz40_0, hcz40_1, hcz40_2, hcz40_3, hcz40_4, hfz40_0, hfz40_1, hfz40_2, hfz40_3, hfz40_4⟩ := bx5 BK135.out))
             (go_ret); (exact ⟨qE, qF⟩)
           ·rw [if_neg c26] at H
            (have c26b0 : decide (2 ≤ ((rd_T46 l1 x10_1).f1)) = false := decide_eq_false c26); clear c26; (obtain rfl := Option.some.inj H); (have p136 : 0 ≤ (x10_1 : Int) := qo qX); (have q136 : x10_1 < (l1.length : Int) := qo qX); (obtain ⟨ad136, e136, hx136_0, hx136_1, hx136_2⟩ := at_T46 HR1.out x10_1 p136 q136)
            cases e136
            (replace hx136_0 := (HB.out.cell (qB w _ hx136_0)).trans hx136_0); (replace hx136_1 := (HB.out.cell (qB w _ hx136_1)).trans hx136_1); (replace hx136_2 := (HB.out.cell (qB w _ hx136_2)).trans hx136_2); (replace p136 := eq_true p136); (replace q136 := eq_true q136)
            go_wp2_with (first | ((with_reducible refine gate_dst (N := 6) rfl ?_); (try (refine gate_guard (by rfl) ?_; dsimp only)); refine box_event ?hg (N := 6) ?hd (cs := #[.int .i64 0, .int .i64 0, .string (⟨#[]⟩ : ByteArray)]) (t := 46) ?hr ?_; (case hd => rfl); (case hg => rfl); (case hr => first | (go_simp; done) | (go_simp; rfl)); intro gb137 hg w41 hbox hb; have n0_ := qM (qb (g := gb135) qK hb); have n1_ := qM (qP qF hb); have n2_ := qM (hbox); have n3_ := qM ((by rw [hg]; exact (qZ qF) : w.heap.size ≤ gb137)); have n4_ := qM ((by rw [hg]; exact (qZ qF) : w.heap.size ≤ gb137)); have n5_ := qM ((by rw [hg]; exact Nat.ne_of_lt (ql (g := gb135) qK) : gb135 ≠ gb137)); have n6_ := qM ((by rw [hg]; exact Nat.ne_of_gt (ql (g := gb135) qK) : gb137 ≠ gb135)); clear BK135; clear HB; have BK135 := n0_; have HB := n1_; have BK137 := n2_; have GW137 := n3_; have GE137 := n4_; have NB135_137 := n5_; have NB137_135 := n6_; clear n0_ n1_ n2_ n3_ n4_ n5_ n6_; clear hb hbox hg; have hnb42 := NB137_135.out; have hnc42 := NB135_137.out; obtain ⟨hcz43_0, hcz43_1, hcz43_2, hfz43_0, hfz43_1, hfz43_2⟩ := bx3 BK137.out))
            (go_ret); (exact ⟨qE, qF⟩)
          ·rw [if_neg c25] at H
           (have c25b0 : (((rd_T46 l1 x10_1).f0) == 3) = false := beq_eq_false_iff_ne.mpr c25); (have c25b1 : (((rd_T46 l1 x10_1).f0) != 3) = true := bne_iff_ne.mpr c25); (obtain rfl := Option.some.inj H); (have p136 : 0 ≤ (x10_1 : Int) := qo qX); (have q136 : x10_1 < (l1.length : Int) := qo qX); (obtain ⟨ad136, e136, hx136_0, hx136_1, hx136_2⟩ := at_T46 HR1.out x10_1 p136 q136)
           cases e136
           (replace hx136_0 := (HB.out.cell (qB w _ hx136_0)).trans hx136_0); (replace hx136_1 := (HB.out.cell (qB w _ hx136_1)).trans hx136_1); (replace hx136_2 := (HB.out.cell (qB w _ hx136_2)).trans hx136_2); (replace p136 := eq_true p136); (replace q136 := eq_true q136)
           go_wp2_with (first | ((with_reducible refine gate_dst (N := 6) rfl ?_); (try (refine gate_guard (by rfl) ?_; dsimp only)); refine box_event ?hg (N := 6) ?hd (cs := #[.int .i64 0, .int .i64 0, .string (⟨#[]⟩ : ByteArray)]) (t := 46) ?hr ?_; (case hd => rfl); (case hg => rfl); (case hr => first | (go_simp; done) | (go_simp; rfl)); intro gb137 hg w44 hbox hb; have n0_ := qM (qb (g := gb135) qK hb); have n1_ := qM (qP qF hb); have n2_ := qM (hbox); have n3_ := qM ((by rw [hg]; exact (qZ qF) : w.heap.size ≤ gb137)); have n4_ := qM ((by rw [hg]; exact (qZ qF) : w.heap.size ≤ gb137)); have n5_ := qM ((by rw [hg]; exact Nat.ne_of_lt (ql (g := gb135) qK) : gb135 ≠ gb137)); have n6_ := qM ((by rw [hg]; exact Nat.ne_of_gt (ql (g := gb135) qK) : gb137 ≠ gb135)); clear BK135; clear HB; have BK135 := n0_; have HB := n1_; have BK137 := n2_; have GW137 := n3_; have GE137 := n4_; have NB135_137 := n5_; have NB137_135 := n6_; clear n0_ n1_ n2_ n3_ n4_ n5_ n6_; clear hb hbox hg; have hnb45 := NB137_135.out; have hnc45 := NB135_137.out; obtain ⟨hcz46_0, hcz46_1, hcz46_2, hfz46_0, hfz46_1, hfz46_2⟩ := bx3 BK137.out))
           (go_ret); (exact ⟨qE, qF⟩)
        ·rw [if_neg c16] at H
         (have c16b0 : (((rd_T46 l1 x10_1).f0) == 2) = false := beq_eq_false_iff_ne.mpr c16); (have c16b1 : (((rd_T46 l1 x10_1).f0) != 2) = true := bne_iff_ne.mpr c16); (by_cases c47 : ((rd_T46 l1 x10_1).f0) = 3)
         ·rw [if_pos c47] at H
          (have c47b0 : (((rd_T46 l1 x10_1).f0) == 3) = true := beq_iff_eq.mpr c47); (have c47b1 : (((rd_T46 l1 x10_1).f0) != 3) = false := bne_eq_false_iff_eq.mpr c47); clear c47; (by_cases c48 : ((rd_T46 l1 x10_1).f1) ≥ 2)
          ·rw [if_pos c48] at H
           (have c48b0 : decide (2 ≤ ((rd_T46 l1 x10_1).f1)) = true := decide_eq_true c48); clear c48; (by_cases c49 : (((rd_T46 l1 x10_1).f1) < (l0_0.length : Int)))
           ·rw [if_pos c49] at H
            (have c49b0 : decide (((rd_T46 l1 x10_1).f1) < (l0_0.length : Int)) = true := decide_eq_true c49); clear c49; (by_cases c50 : ((rd_T46 l1 x10_1).f2).toList = ([] : List UInt8))
            ·rw [if_pos c50] at H
             (have c50b0 : (((rd_T46 l1 x10_1).f2).toList == ([] : List UInt8)) = true := beq_iff_eq.mpr c50); (have c50b1 : (((rd_T46 l1 x10_1).f2).toList != ([] : List UInt8)) = false := bne_eq_false_iff_eq.mpr c50); clear c50; (obtain rfl := Option.some.inj H); (have p136 : 0 ≤ (x10_1 : Int) := qo qX); (have q136 : x10_1 < (l1.length : Int) := qo qX); (obtain ⟨ad136, e136, hx136_0, hx136_1, hx136_2⟩ := at_T46 HR1.out x10_1 p136 q136)
             cases e136
             (replace hx136_0 := (HB.out.cell (qB w _ hx136_0)).trans hx136_0); (replace hx136_1 := (HB.out.cell (qB w _ hx136_1)).trans hx136_1); (replace hx136_2 := (HB.out.cell (qB w _ hx136_2)).trans hx136_2); (replace p136 := eq_true p136); (replace q136 := eq_true q136)
             go_wp2_with (first | ((with_reducible refine gate_dst (N := 6) rfl ?_); (try (refine gate_guard (by rfl) ?_; dsimp only)); refine box_event ?hg (N := 6) ?hd (cs := #[.int .i64 0, .int .i64 0, .string (⟨#[]⟩ : ByteArray)]) (t := 46) ?hr ?_; (case hd => rfl); (case hg => rfl); (case hr => first | (go_simp; done) | (go_simp; rfl)); intro gb137 hg w51 hbox hb; have n0_ := qM (qb (g := gb135) qK hb); have n1_ := qM (qP qF hb); have n2_ := qM (hbox); have n3_ := qM ((by rw [hg]; exact (qZ qF) : w.heap.size ≤ gb137)); have n4_ := qM ((by rw [hg]; exact (qZ qF) : w.heap.size ≤ gb137)); have n5_ := qM ((by rw [hg]; exact Nat.ne_of_lt (ql (g := gb135) qK) : gb135 ≠ gb137)); have n6_ := qM ((by rw [hg]; exact Nat.ne_of_gt (ql (g := gb135) qK) : gb137 ≠ gb135)); clear BK135; clear HB; have BK135 := n0_; have HB := n1_; have BK137 := n2_; have GW137 := n3_; have GE137 := n4_; have NB135_137 := n5_; have NB137_135 := n6_; clear n0_ n1_ n2_ n3_ n4_ n5_ n6_; clear hb hbox hg; have hnb52 := NB137_135.out; have hnc52 := NB135_137.out; obtain ⟨hcz53_0, hcz53_1, hcz53_2, hfz53_0, hfz53_1, hfz53_2⟩ := bx3 BK137.out; obtain ⟨hcz54_0, hcz54_1, hcz54_2, hcz54_3, hcz54_4, hfz54_0, hfz54_1, hfz54_2, hfz54_3, hfz54_4⟩ := bx5 BK135.out))
             (go_ret); (exact ⟨qE, qF⟩)
            ·rw [if_neg c50] at H
             (have c50b0 : (((rd_T46 l1 x10_1).f2).toList == ([] : List UInt8)) = false := beq_eq_false_iff_ne.mpr c50); (have c50b1 : (((rd_T46 l1 x10_1).f2).toList != ([] : List UInt8)) = true := bne_iff_ne.mpr c50); (have H' := qM H); clear H; (have p136 : 0 ≤ (x10_1 : Int) := qo qX); (have q136 : x10_1 < (l1.length : Int) := qo qX); (obtain ⟨ad136, e136, hx136_0, hx136_1, hx136_2⟩ := at_T46 HR1.out x10_1 p136 q136)
             cases e136
             (replace hx136_0 := (HB.out.cell (qB w _ hx136_0)).trans hx136_0); (replace hx136_1 := (HB.out.cell (qB w _ hx136_1)).trans hx136_1); (replace hx136_2 := (HB.out.cell (qB w _ hx136_2)).trans hx136_2); (replace p136 := eq_true p136); (replace q136 := eq_true q136)
             go_wp2_with (first | ((with_reducible refine gate_dst (N := 6) rfl ?_); (try (refine gate_guard (by rfl) ?_; dsimp only)); refine box_event ?hg (N := 6) ?hd (cs := #[.int .i64 0, .int .i64 0, .string (⟨#[]⟩ : ByteArray)]) (t := 46) ?hr ?_; (case hd => rfl); (case hg => rfl); (case hr => first | (go_simp; done) | (go_simp; rfl)); intro gb137 hg w55 hbox hb; have n0_ := qM (qb (g := gb135) qK hb); have n1_ := qM (qP qF hb); have n2_ := qM (hbox); have n3_ := qM ((by rw [hg]; exact (qZ qF) : w.heap.size ≤ gb137)); have n4_ := qM ((by rw [hg]; exact (qZ qF) : w.heap.size ≤ gb137)); have n5_ := qM ((by rw [hg]; exact Nat.ne_of_lt (ql (g := gb135) qK) : gb135 ≠ gb137)); have n6_ := qM ((by rw [hg]; exact Nat.ne_of_gt (ql (g := gb135) qK) : gb137 ≠ gb135)); clear BK135; clear HB; have BK135 := n0_; have HB := n1_; have BK137 := n2_; have GW137 := n3_; have GE137 := n4_; have NB135_137 := n5_; have NB137_135 := n6_; clear n0_ n1_ n2_ n3_ n4_ n5_ n6_; clear hb hbox hg; have hnb56 := NB137_135.out; have hnc56 := NB135_137.out; obtain ⟨hcz57_0, hcz57_1, hcz57_2, hfz57_0, hfz57_1, hfz57_2⟩ := bx3 BK137.out; obtain ⟨hcz58_0, hcz58_1, hcz58_2, hcz58_3, hcz58_4, hfz58_0, hfz58_1, hfz58_2, hfz58_3, hfz58_4⟩ := bx5 BK135.out))
             go_roundg k1
             case measure => have := HK1.out; omega
             case rel => exact ⟨(wrap64 (x10_1 + 1)), qV, H', ⟨by have := HK1.out; omega⟩, ⟨by (with_reducible repeat (first | refine qn ?_ _ | refine qd ?_ | refine qa ?_ _)); refine qf ?_ NB135_137.out _; (with_reducible repeat (first | refine qn ?_ _ | refine qd ?_ | refine qa ?_ _)); refine qf ?_ NB135_137.out _; (with_reducible repeat (first | refine qn ?_ _ | refine qd ?_ | refine qa ?_ _)); refine qf ?_ NB135_137.out _; (with_reducible repeat (first | refine qn ?_ _ | refine qd ?_ | refine qa ?_ _)); exact BK135.out⟩, ⟨qF⟩⟩
           ·rw [if_neg c49] at H
            (have c49b0 : decide (((rd_T46 l1 x10_1).f1) < (l0_0.length : Int)) = false := decide_eq_false c49); clear c49; (obtain rfl := Option.some.inj H); (have p136 : 0 ≤ (x10_1 : Int) := qo qX); (have q136 : x10_1 < (l1.length : Int) := qo qX); (obtain ⟨ad136, e136, hx136_0, hx136_1, hx136_2⟩ := at_T46 HR1.out x10_1 p136 q136)
            cases e136
            (replace hx136_0 := (HB.out.cell (qB w _ hx136_0)).trans hx136_0); (replace hx136_1 := (HB.out.cell (qB w _ hx136_1)).trans hx136_1); (replace hx136_2 := (HB.out.cell (qB w _ hx136_2)).trans hx136_2); (replace p136 := eq_true p136); (replace q136 := eq_true q136)
            go_wp2_with (first | ((with_reducible refine gate_dst (N := 6) rfl ?_); (try (refine gate_guard (by rfl) ?_; dsimp only)); refine box_event ?hg (N := 6) ?hd (cs := #[.int .i64 0, .int .i64 0, .string (⟨#[]⟩ : ByteArray)]) (t := 46) ?hr ?_; (case hd => rfl); (case hg => rfl); (case hr => first | (go_simp; done) | (go_simp; rfl)); intro gb137 hg w59 hbox hb; have n0_ := qM (qb (g := gb135) qK hb); have n1_ := qM (qP qF hb); have n2_ := qM (hbox); have n3_ := qM ((by rw [hg]; exact (qZ qF) : w.heap.size ≤ gb137)); have n4_ := qM ((by rw [hg]; exact (qZ qF) : w.heap.size ≤ gb137)); have n5_ := qM ((by rw [hg]; exact Nat.ne_of_lt (ql (g := gb135) qK) : gb135 ≠ gb137)); have n6_ := qM ((by rw [hg]; exact Nat.ne_of_gt (ql (g := gb135) qK) : gb137 ≠ gb135)); clear BK135; clear HB; have BK135 := n0_; have HB := n1_; have BK137 := n2_; have GW137 := n3_; have GE137 := n4_; have NB135_137 := n5_; have NB137_135 := n6_; clear n0_ n1_ n2_ n3_ n4_ n5_ n6_; clear hb hbox hg; have hnb60 := NB137_135.out; have hnc60 := NB135_137.out; obtain ⟨hcz61_0, hcz61_1, hcz61_2, hfz61_0, hfz61_1, hfz61_2⟩ := bx3 BK137.out; obtain ⟨hcz62_0, hcz62_1, hcz62_2, hcz62_3, hcz62_4, hfz62_0, hfz62_1, hfz62_2, hfz62_3, hfz62_4⟩ := bx5 BK135.out))
            (go_ret); (exact ⟨qE, qF⟩)
          ·rw [if_neg c48] at H
           (have c48b0 : decide (2 ≤ ((rd_T46 l1 x10_1).f1)) = false := decide_eq_false c48); clear c48; (obtain rfl := Option.some.inj H); (have p136 : 0 ≤ (x10_1 : Int) := qo qX); (have q136 : x10_1 < (l1.length : Int) := qo qX); (obtain ⟨ad136, e136, hx136_0, hx136_1, hx136_2⟩ := at_T46 HR1.out x10_1 p136 q136)
           cases e136
           (replace hx136_0 := (HB.out.cell (qB w _ hx136_0)).trans hx136_0); (replace hx136_1 := (HB.out.cell (qB w _ hx136_1)).trans hx136_1); (replace hx136_2 := (HB.out.cell (qB w _ hx136_2)).trans hx136_2); (replace p136 := eq_true p136); (replace q136 := eq_true q136)
           go_wp2_with (first | ((with_reducible refine gate_dst (N := 6) rfl ?_); (try (refine gate_guard (by rfl) ?_; dsimp only)); refine box_event ?hg (N := 6) ?hd (cs := #[.int .i64 0, .int .i64 0, .string (⟨#[]⟩ : ByteArray)]) (t := 46) ?hr ?_; (case hd => rfl); (case hg => rfl); (case hr => first | (go_simp; done) | (go_simp; rfl)); intro gb137 hg w63 hbox hb; have n0_ := qM (qb (g := gb135) qK hb); have n1_ := qM (qP qF hb); have n2_ := qM (hbox); have n3_ := qM ((by rw [hg]; exact (qZ qF) : w.heap.size ≤ gb137)); have n4_ := qM ((by rw [hg]; exact (qZ qF) : w.heap.size ≤ gb137)); have n5_ := qM ((by rw [hg]; exact Nat.ne_of_lt (ql (g := gb135) qK) : gb135 ≠ gb137)); have n6_ := qM ((by rw [hg]; exact Nat.ne_of_gt (ql (g := gb135) qK) : gb137 ≠ gb135)); clear BK135; clear HB; have BK135 := n0_; have HB := n1_; have BK137 := n2_; have GW137 := n3_; have GE137 := n4_; have NB135_137 := n5_; have NB137_135 := n6_; clear n0_ n1_ n2_ n3_ n4_ n5_ n6_; clear hb hbox hg; have hnb64 := NB137_135.out; have hnc64 := NB135_137.out; obtain ⟨hcz65_0, hcz65_1, hcz65_2, hfz65_0, hfz65_1, hfz65_2⟩ := bx3 BK137.out))
           (go_ret); (exact ⟨qE, qF⟩)
         ·rw [if_neg c47] at H
          (have c47b0 : (((rd_T46 l1 x10_1).f0) == 3) = false := beq_eq_false_iff_ne.mpr c47); (have c47b1 : (((rd_T46 l1 x10_1).f0) != 3) = true := bne_iff_ne.mpr c47); (obtain rfl := Option.some.inj H); (have p136 : 0 ≤ (x10_1 : Int) := qo qX); (have q136 : x10_1 < (l1.length : Int) := qo qX); (obtain ⟨ad136, e136, hx136_0, hx136_1, hx136_2⟩ := at_T46 HR1.out x10_1 p136 q136)
          cases e136
          (replace hx136_0 := (HB.out.cell (qB w _ hx136_0)).trans hx136_0); (replace hx136_1 := (HB.out.cell (qB w _ hx136_1)).trans hx136_1); (replace hx136_2 := (HB.out.cell (qB w _ hx136_2)).trans hx136_2); (replace p136 := eq_true p136); (replace q136 := eq_true q136)
          go_wp2_with (first | ((with_reducible refine gate_dst (N := 6) rfl ?_); (try (refine gate_guard (by rfl) ?_; dsimp only)); refine box_event ?hg (N := 6) ?hd (cs := #[.int .i64 0, .int .i64 0, .string (⟨#[]⟩ : ByteArray)]) (t := 46) ?hr ?_; (case hd => rfl); (case hg => rfl); (case hr => first | (go_simp; done) | (go_simp; rfl)); intro gb137 hg w66 hbox hb; have n0_ := qM (qb (g := gb135) qK hb); have n1_ := qM (qP qF hb); have n2_ := qM (hbox); have n3_ := qM ((by rw [hg]; exact (qZ qF) : w.heap.size ≤ gb137)); have n4_ := qM ((by rw [hg]; exact (qZ qF) : w.heap.size ≤ gb137)); have n5_ := qM ((by rw [hg]; exact Nat.ne_of_lt (ql (g := gb135) qK) : gb135 ≠ gb137)); have n6_ := qM ((by rw [hg]; exact Nat.ne_of_gt (ql (g := gb135) qK) : gb137 ≠ gb135)); clear BK135; clear HB; have BK135 := n0_; have HB := n1_; have BK137 := n2_; have GW137 := n3_; have GE137 := n4_; have NB135_137 := n5_; have NB137_135 := n6_; clear n0_ n1_ n2_ n3_ n4_ n5_ n6_; clear hb hbox hg; have hnb67 := NB137_135.out; have hnc67 := NB135_137.out; obtain ⟨hcz68_0, hcz68_1, hcz68_2, hfz68_0, hfz68_1, hfz68_2⟩ := bx3 BK137.out))
          (go_ret); (exact ⟨qE, qF⟩)
      ·rw [if_neg c7] at H
       (have c7b0 : (((rd_T46 l1 x10_1).f0) == 1) = false := beq_eq_false_iff_ne.mpr c7); (have c7b1 : (((rd_T46 l1 x10_1).f0) != 1) = true := bne_iff_ne.mpr c7); (by_cases c69 : ((rd_T46 l1 x10_1).f0) = 2)
       ·rw [if_pos c69] at H
        (have c69b0 : (((rd_T46 l1 x10_1).f0) == 2) = true := beq_iff_eq.mpr c69); (have c69b1 : (((rd_T46 l1 x10_1).f0) != 2) = false := bne_eq_false_iff_eq.mpr c69); clear c69; (by_cases c70 : ((rd_T46 l1 x10_1).f1) = (-1))
        ·rw [if_pos c70] at H
         (have c70b0 : (((rd_T46 l1 x10_1).f1) == (-1)) = true := beq_iff_eq.mpr c70); (have c70b1 : (((rd_T46 l1 x10_1).f1) != (-1)) = false := bne_eq_false_iff_eq.mpr c70); clear c70; (by_cases c71 : ((rd_T46 l1 x10_1).f2).toList = ([] : List UInt8))
         ·rw [if_pos c71] at H
          (have c71b0 : (((rd_T46 l1 x10_1).f2).toList == ([] : List UInt8)) = true := beq_iff_eq.mpr c71); (have c71b1 : (((rd_T46 l1 x10_1).f2).toList != ([] : List UInt8)) = false := bne_eq_false_iff_eq.mpr c71); clear c71; (obtain rfl := Option.some.inj H); (have p136 : 0 ≤ (x10_1 : Int) := qo qX); (have q136 : x10_1 < (l1.length : Int) := qo qX); (obtain ⟨ad136, e136, hx136_0, hx136_1, hx136_2⟩ := at_T46 HR1.out x10_1 p136 q136)
          cases e136
          (replace hx136_0 := (HB.out.cell (qB w _ hx136_0)).trans hx136_0); (replace hx136_1 := (HB.out.cell (qB w _ hx136_1)).trans hx136_1); (replace hx136_2 := (HB.out.cell (qB w _ hx136_2)).trans hx136_2); (replace p136 := eq_true p136); (replace q136 := eq_true q136)
          go_wp2_with (first | ((with_reducible refine gate_dst (N := 6) rfl ?_); (try (refine gate_guard (by rfl) ?_; dsimp only)); refine box_event ?hg (N := 6) ?hd (cs := #[.int .i64 0, .int .i64 0, .string (⟨#[]⟩ : ByteArray)]) (t := 46) ?hr ?_; (case hd => rfl); (case hg => rfl); (case hr => first | (go_simp; done) | (go_simp; rfl)); intro gb137 hg w72 hbox hb; have n0_ := qM (qb (g := gb135) qK hb); have n1_ := qM (qP qF hb); have n2_ := qM (hbox); have n3_ := qM ((by rw [hg]; exact (qZ qF) : w.heap.size ≤ gb137)); have n4_ := qM ((by rw [hg]; exact (qZ qF) : w.heap.size ≤ gb137)); have n5_ := qM ((by rw [hg]; exact Nat.ne_of_lt (ql (g := gb135) qK) : gb135 ≠ gb137)); have n6_ := qM ((by rw [hg]; exact Nat.ne_of_gt (ql (g := gb135) qK) : gb137 ≠ gb135)); clear BK135; clear HB; have BK135 := n0_; have HB := n1_; have BK137 := n2_; have GW137 := n3_; have GE137 := n4_; have NB135_137 := n5_; have NB137_135 := n6_; clear n0_ n1_ n2_ n3_ n4_ n5_ n6_; clear hb hbox hg; have hnb73 := NB137_135.out; have hnc73 := NB135_137.out; obtain ⟨hcz74_0, hcz74_1, hcz74_2, hfz74_0, hfz74_1, hfz74_2⟩ := bx3 BK137.out))
          (go_ret); (exact ⟨qE, qF⟩)
         ·rw [if_neg c71] at H
          (have c71b0 : (((rd_T46 l1 x10_1).f2).toList == ([] : List UInt8)) = false := beq_eq_false_iff_ne.mpr c71); (have c71b1 : (((rd_T46 l1 x10_1).f2).toList != ([] : List UInt8)) = true := bne_iff_ne.mpr c71); (have H' := qM H); clear H; (have p136 : 0 ≤ (x10_1 : Int) := qo qX); (have q136 : x10_1 < (l1.length : Int) := qo qX); (obtain ⟨ad136, e136, hx136_0, hx136_1, hx136_2⟩ := at_T46 HR1.out x10_1 p136 q136)
          cases e136
          (replace hx136_0 := (HB.out.cell (qB w _ hx136_0)).trans hx136_0); (replace hx136_1 := (HB.out.cell (qB w _ hx136_1)).trans hx136_1); (replace hx136_2 := (HB.out.cell (qB w _ hx136_2)).trans hx136_2); (replace p136 := eq_true p136); (replace q136 := eq_true q136)
          go_wp2_with (first | ((with_reducible refine gate_dst (N := 6) rfl ?_); (try (refine gate_guard (by rfl) ?_; dsimp only)); refine box_event ?hg (N := 6) ?hd (cs := #[.int .i64 0, .int .i64 0, .string (⟨#[]⟩ : ByteArray)]) (t := 46) ?hr ?_; (case hd => rfl); (case hg => rfl); (case hr => first | (go_simp; done) | (go_simp; rfl)); intro gb137 hg w75 hbox hb; have n0_ := qM (qb (g := gb135) qK hb); have n1_ := qM (qP qF hb); have n2_ := qM (hbox); have n3_ := qM ((by rw [hg]; exact (qZ qF) : w.heap.size ≤ gb137)); have n4_ := qM ((by rw [hg]; exact (qZ qF) : w.heap.size ≤ gb137)); have n5_ := qM ((by rw [hg]; exact Nat.ne_of_lt (ql (g := gb135) qK) : gb135 ≠ gb137)); have n6_ := qM ((by rw [hg]; exact Nat.ne_of_gt (ql (g := gb135) qK) : gb137 ≠ gb135)); clear BK135; clear HB; have BK135 := n0_; have HB := n1_; have BK137 := n2_; have GW137 := n3_; have GE137 := n4_; have NB135_137 := n5_; have NB137_135 := n6_; clear n0_ n1_ n2_ n3_ n4_ n5_ n6_; clear hb hbox hg; have hnb76 := NB137_135.out; have hnc76 := NB135_137.out; obtain ⟨hcz77_0, hcz77_1, hcz77_2, hfz77_0, hfz77_1, hfz77_2⟩ := bx3 BK137.out))
          go_roundg k1
          case measure => have := HK1.out; omega
          case rel => exact ⟨(wrap64 (x10_1 + 1)), qV, H', ⟨by have := HK1.out; omega⟩, ⟨by (with_reducible repeat (first | refine qn ?_ _ | refine qd ?_ | refine qa ?_ _)); refine qf ?_ NB135_137.out _; (with_reducible repeat (first | refine qn ?_ _ | refine qd ?_ | refine qa ?_ _)); refine qf ?_ NB135_137.out _; (with_reducible repeat (first | refine qn ?_ _ | refine qd ?_ | refine qa ?_ _)); refine qf ?_ NB135_137.out _; (with_reducible repeat (first | refine qn ?_ _ | refine qd ?_ | refine qa ?_ _)); exact BK135.out⟩, ⟨qF⟩⟩
        ·rw [if_neg c70] at H
         (have c70b0 : (((rd_T46 l1 x10_1).f1) == (-1)) = false := beq_eq_false_iff_ne.mpr c70); (have c70b1 : (((rd_T46 l1 x10_1).f1) != (-1)) = true := bne_iff_ne.mpr c70); (by_cases c78 : ((rd_T46 l1 x10_1).f0) = 3)
         ·rw [if_pos c78] at H
          (have c78b0 : (((rd_T46 l1 x10_1).f0) == 3) = true := beq_iff_eq.mpr c78); (have c78b1 : (((rd_T46 l1 x10_1).f0) != 3) = false := bne_eq_false_iff_eq.mpr c78); clear c78; (by_cases c79 : ((rd_T46 l1 x10_1).f1) ≥ 2)
          ·rw [if_pos c79] at H
           (have c79b0 : decide (2 ≤ ((rd_T46 l1 x10_1).f1)) = true := decide_eq_true c79); clear c79; (by_cases c80 : (((rd_T46 l1 x10_1).f1) < (l0_0.length : Int)))
           ·rw [if_pos c80] at H
            (have c80b0 : decide (((rd_T46 l1 x10_1).f1) < (l0_0.length : Int)) = true := decide_eq_true c80); clear c80; (by_cases c81 : ((rd_T46 l1 x10_1).f2).toList = ([] : List UInt8))
            ·rw [if_pos c81] at H
             (have c81b0 : (((rd_T46 l1 x10_1).f2).toList == ([] : List UInt8)) = true := beq_iff_eq.mpr c81); (have c81b1 : (((rd_T46 l1 x10_1).f2).toList != ([] : List UInt8)) = false := bne_eq_false_iff_eq.mpr c81); clear c81; (obtain rfl := Option.some.inj H); (have p136 : 0 ≤ (x10_1 : Int) := qo qX); (have q136 : x10_1 < (l1.length : Int) := qo qX); (obtain ⟨ad136, e136, hx136_0, hx136_1, hx136_2⟩ := at_T46 HR1.out x10_1 p136 q136)
             cases e136
             (replace hx136_0 := (HB.out.cell (qB w _ hx136_0)).trans hx136_0); (replace hx136_1 := (HB.out.cell (qB w _ hx136_1)).trans hx136_1); (replace hx136_2 := (HB.out.cell (qB w _ hx136_2)).trans hx136_2); (replace p136 := eq_true p136); (replace q136 := eq_true q136)
             go_wp2_with (first | ((with_reducible refine gate_dst (N := 6) rfl ?_); (try (refine gate_guard (by rfl) ?_; dsimp only)); refine box_event ?hg (N := 6) ?hd (cs := #[.int .i64 0, .int .i64 0, .string (⟨#[]⟩ : ByteArray)]) (t := 46) ?hr ?_; (case hd => rfl); (case hg => rfl); (case hr => first | (go_simp; done) | (go_simp; rfl)); intro gb137 hg w82 hbox hb; have n0_ := qM (qb (g := gb135) qK hb); have n1_ := qM (qP qF hb); have n2_ := qM (hbox); have n3_ := qM ((by rw [hg]; exact (qZ qF) : w.heap.size ≤ gb137)); have n4_ := qM ((by rw [hg]; exact (qZ qF) : w.heap.size ≤ gb137)); have n5_ := qM ((by rw [hg]; exact Nat.ne_of_lt (ql (g := gb135) qK) : gb135 ≠ gb137)); have n6_ := qM ((by rw [hg]; exact Nat.ne_of_gt (ql (g := gb135) qK) : gb137 ≠ gb135)); clear BK135; clear HB; have BK135 := n0_; have HB := n1_; have BK137 := n2_; have GW137 := n3_; have GE137 := n4_; have NB135_137 := n5_; have NB137_135 := n6_; clear n0_ n1_ n2_ n3_ n4_ n5_ n6_; clear hb hbox hg; have hnb83 := NB137_135.out; have hnc83 := NB135_137.out; obtain ⟨hcz84_0, hcz84_1, hcz84_2, hfz84_0, hfz84_1, hfz84_2⟩ := bx3 BK137.out; obtain ⟨hcz85_0, hcz85_1, hcz85_2, hcz85_3, hcz85_4, hfz85_0, hfz85_1, hfz85_2, hfz85_3, hfz85_4⟩ := bx5 BK135.out))
             (go_ret); (exact ⟨qE, qF⟩)
            ·rw [if_neg c81] at H
             (have c81b0 : (((rd_T46 l1 x10_1).f2).toList == ([] : List UInt8)) = false := beq_eq_false_iff_ne.mpr c81); (have c81b1 : (((rd_T46 l1 x10_1).f2).toList != ([] : List UInt8)) = true := bne_iff_ne.mpr c81); (have H' := qM H); clear H; (have p136 : 0 ≤ (x10_1 : Int) := qo qX); (have q136 : x10_1 < (l1.length : Int) := qo qX); (obtain ⟨ad136, e136, hx136_0, hx136_1, hx136_2⟩ := at_T46 HR1.out x10_1 p136 q136)
             cases e136
             (replace hx136_0 := (HB.out.cell (qB w _ hx136_0)).trans hx136_0); (replace hx136_1 := (HB.out.cell (qB w _ hx136_1)).trans hx136_1); (replace hx136_2 := (HB.out.cell (qB w _ hx136_2)).trans hx136_2); (replace p136 := eq_true p136); (replace q136 := eq_true q136)
             go_wp2_with (first | ((with_reducible refine gate_dst (N := 6) rfl ?_); (try (refine gate_guard (by rfl) ?_; dsimp only)); refine box_event ?hg (N := 6) ?hd (cs := #[.int .i64 0, .int .i64 0, .string (⟨#[]⟩ : ByteArray)]) (t := 46) ?hr ?_; (case hd => rfl); (case hg => rfl); (case hr => first | (go_simp; done) | (go_simp; rfl)); intro gb137 hg w86 hbox hb; have n0_ := qM (qb (g := gb135) qK hb); have n1_ := qM (qP qF hb); have n2_ := qM (hbox); have n3_ := qM ((by rw [hg]; exact (qZ qF) : w.heap.size ≤ gb137)); have n4_ := qM ((by rw [hg]; exact (qZ qF) : w.heap.size ≤ gb137)); have n5_ := qM ((by rw [hg]; exact Nat.ne_of_lt (ql (g := gb135) qK) : gb135 ≠ gb137)); have n6_ := qM ((by rw [hg]; exact Nat.ne_of_gt (ql (g := gb135) qK) : gb137 ≠ gb135)); clear BK135; clear HB; have BK135 := n0_; have HB := n1_; have BK137 := n2_; have GW137 := n3_; have GE137 := n4_; have NB135_137 := n5_; have NB137_135 := n6_; clear n0_ n1_ n2_ n3_ n4_ n5_ n6_; clear hb hbox hg; have hnb87 := NB137_135.out; have hnc87 := NB135_137.out; obtain ⟨hcz88_0, hcz88_1, hcz88_2, hfz88_0, hfz88_1, hfz88_2⟩ := bx3 BK137.out; obtain ⟨hcz89_0, hcz89_1, hcz89_2, hcz89_3, hcz89_4, hfz89_0, hfz89_1, hfz89_2, hfz89_3, hfz89_4⟩ := bx5 BK135.out))
             go_roundg k1
             case measure => have := HK1.out; omega
             case rel => exact ⟨(wrap64 (x10_1 + 1)), qV, H', ⟨by have := HK1.out; omega⟩, ⟨by (with_reducible repeat (first | refine qn ?_ _ | refine qd ?_ | refine qa ?_ _)); refine qf ?_ NB135_137.out _; (with_reducible repeat (first | refine qn ?_ _ | refine qd ?_ | refine qa ?_ _)); refine qf ?_ NB135_137.out _; (with_reducible repeat (first | refine qn ?_ _ | refine qd ?_ | refine qa ?_ _)); refine qf ?_ NB135_137.out _; (with_reducible repeat (first | refine qn ?_ _ | refine qd ?_ | refine qa ?_ _)); exact BK135.out⟩, ⟨qF⟩⟩
           ·rw [if_neg c80] at H
            (have c80b0 : decide (((rd_T46 l1 x10_1).f1) < (l0_0.length : Int)) = false := decide_eq_false c80); clear c80; (obtain rfl := Option.some.inj H); (have p136 : 0 ≤ (x10_1 : Int) := qo qX); (have q136 : x10_1 < (l1.length : Int) := qo qX); (obtain ⟨ad136, e136, hx136_0, hx136_1, hx136_2⟩ := at_T46 HR1.out x10_1 p136 q136)
            cases e136
            (replace hx136_0 := (HB.out.cell (qB w _ hx136_0)).trans hx136_0); (replace hx136_1 := (HB.out.cell (qB w _ hx136_1)).trans hx136_1); (replace hx136_2 := (HB.out.cell (qB w _ hx136_2)).trans hx136_2); (replace p136 := eq_true p136); (replace q136 := eq_true q136)
            go_wp2_with (first | ((with_reducible refine gate_dst (N := 6) rfl ?_); (try (refine gate_guard (by rfl) ?_; dsimp only)); refine box_event ?hg (N := 6) ?hd (cs := #[.int .i64 0, .int .i64 0, .string (⟨#[]⟩ : ByteArray)]) (t := 46) ?hr ?_; (case hd => rfl); (case hg => rfl); (case hr => first | (go_simp; done) | (go_simp; rfl)); intro gb137 hg w90 hbox hb; have n0_ := qM (qb (g := gb135) qK hb); have n1_ := qM (qP qF hb); have n2_ := qM (hbox); have n3_ := qM ((by rw [hg]; exact (qZ qF) : w.heap.size ≤ gb137)); have n4_ := qM ((by rw [hg]; exact (qZ qF) : w.heap.size ≤ gb137)); have n5_ := qM ((by rw [hg]; exact Nat.ne_of_lt (ql (g := gb135) qK) : gb135 ≠ gb137)); have n6_ := qM ((by rw [hg]; exact Nat.ne_of_gt (ql (g := gb135) qK) : gb137 ≠ gb135)); clear BK135; clear HB; have BK135 := n0_; have HB := n1_; have BK137 := n2_; have GW137 := n3_; have GE137 := n4_; have NB135_137 := n5_; have NB137_135 := n6_; clear n0_ n1_ n2_ n3_ n4_ n5_ n6_; clear hb hbox hg; have hnb91 := NB137_135.out; have hnc91 := NB135_137.out; obtain ⟨hcz92_0, hcz92_1, hcz92_2, hfz92_0, hfz92_1, hfz92_2⟩ := bx3 BK137.out; obtain ⟨hcz93_0, hcz93_1, hcz93_2, hcz93_3, hcz93_4, hfz93_0, hfz93_1, hfz93_2, hfz93_3, hfz93_4⟩ := bx5 BK135.out))
            (go_ret); (exact ⟨qE, qF⟩)
          ·rw [if_neg c79] at H
           (have c79b0 : decide (2 ≤ ((rd_T46 l1 x10_1).f1)) = false := decide_eq_false c79); clear c79; (obtain rfl := Option.some.inj H); (have p136 : 0 ≤ (x10_1 : Int) := qo qX); (have q136 : x10_1 < (l1.length : Int) := qo qX); (obtain ⟨ad136, e136, hx136_0, hx136_1, hx136_2⟩ := at_T46 HR1.out x10_1 p136 q136)
           cases e136
           (replace hx136_0 := (HB.out.cell (qB w _ hx136_0)).trans hx136_0); (replace hx136_1 := (HB.out.cell (qB w _ hx136_1)).trans hx136_1); (replace hx136_2 := (HB.out.cell (qB w _ hx136_2)).trans hx136_2); (replace p136 := eq_true p136); (replace q136 := eq_true q136)
           go_wp2_with (first | ((with_reducible refine gate_dst (N := 6) rfl ?_); (try (refine gate_guard (by rfl) ?_; dsimp only)); refine box_event ?hg (N := 6) ?hd (cs := #[.int .i64 0, .int .i64 0, .string (⟨#[]⟩ : ByteArray)]) (t := 46) ?hr ?_; (case hd => rfl); (case hg => rfl); (case hr => first | (go_simp; done) | (go_simp; rfl)); intro gb137 hg w94 hbox hb; have n0_ := qM (qb (g := gb135) qK hb); have n1_ := qM (qP qF hb); have n2_ := qM (hbox); have n3_ := qM ((by rw [hg]; exact (qZ qF) : w.heap.size ≤ gb137)); have n4_ := qM ((by rw [hg]; exact (qZ qF) : w.heap.size ≤ gb137)); have n5_ := qM ((by rw [hg]; exact Nat.ne_of_lt (ql (g := gb135) qK) : gb135 ≠ gb137)); have n6_ := qM ((by rw [hg]; exact Nat.ne_of_gt (ql (g := gb135) qK) : gb137 ≠ gb135)); clear BK135; clear HB; have BK135 := n0_; have HB := n1_; have BK137 := n2_; have GW137 := n3_; have GE137 := n4_; have NB135_137 := n5_; have NB137_135 := n6_; clear n0_ n1_ n2_ n3_ n4_ n5_ n6_; clear hb hbox hg; have hnb95 := NB137_135.out; have hnc95 := NB135_137.out; obtain ⟨hcz96_0, hcz96_1, hcz96_2, hfz96_0, hfz96_1, hfz96_2⟩ := bx3 BK137.out))
           (go_ret); (exact ⟨qE, qF⟩)
         ·rw [if_neg c78] at H
          (have c78b0 : (((rd_T46 l1 x10_1).f0) == 3) = false := beq_eq_false_iff_ne.mpr c78); (have c78b1 : (((rd_T46 l1 x10_1).f0) != 3) = true := bne_iff_ne.mpr c78); (obtain rfl := Option.some.inj H); (have p136 : 0 ≤ (x10_1 : Int) := qo qX); (have q136 : x10_1 < (l1.length : Int) := qo qX); (obtain ⟨ad136, e136, hx136_0, hx136_1, hx136_2⟩ := at_T46 HR1.out x10_1 p136 q136)
          cases e136
          (replace hx136_0 := (HB.out.cell (qB w _ hx136_0)).trans hx136_0); (replace hx136_1 := (HB.out.cell (qB w _ hx136_1)).trans hx136_1); (replace hx136_2 := (HB.out.cell (qB w _ hx136_2)).trans hx136_2); (replace p136 := eq_true p136); (replace q136 := eq_true q136)
          go_wp2_with (first | ((with_reducible refine gate_dst (N := 6) rfl ?_); (try (refine gate_guard (by rfl) ?_; dsimp only)); refine box_event ?hg (N := 6) ?hd (cs := #[.int .i64 0, .int .i64 0, .string (⟨#[]⟩ : ByteArray)]) (t := 46) ?hr ?_; (case hd => rfl); (case hg => rfl); (case hr => first | (go_simp; done) | (go_simp; rfl)); intro gb137 hg w97 hbox hb; have n0_ := qM (qb (g := gb135) qK hb); have n1_ := qM (qP qF hb); have n2_ := qM (hbox); have n3_ := qM ((by rw [hg]; exact (qZ qF) : w.heap.size ≤ gb137)); have n4_ := qM ((by rw [hg]; exact (qZ qF) : w.heap.size ≤ gb137)); have n5_ := qM ((by rw [hg]; exact Nat.ne_of_lt (ql (g := gb135) qK) : gb135 ≠ gb137)); have n6_ := qM ((by rw [hg]; exact Nat.ne_of_gt (ql (g := gb135) qK) : gb137 ≠ gb135)); clear BK135; clear HB; have BK135 := n0_; have HB := n1_; have BK137 := n2_; have GW137 := n3_; have GE137 := n4_; have NB135_137 := n5_; have NB137_135 := n6_; clear n0_ n1_ n2_ n3_ n4_ n5_ n6_; clear hb hbox hg; have hnb98 := NB137_135.out; have hnc98 := NB135_137.out; obtain ⟨hcz99_0, hcz99_1, hcz99_2, hfz99_0, hfz99_1, hfz99_2⟩ := bx3 BK137.out))
          (go_ret); (exact ⟨qE, qF⟩)
       ·rw [if_neg c69] at H
        (have c69b0 : (((rd_T46 l1 x10_1).f0) == 2) = false := beq_eq_false_iff_ne.mpr c69); (have c69b1 : (((rd_T46 l1 x10_1).f0) != 2) = true := bne_iff_ne.mpr c69); (by_cases c100 : ((rd_T46 l1 x10_1).f0) = 3)
        ·rw [if_pos c100] at H
         (have c100b0 : (((rd_T46 l1 x10_1).f0) == 3) = true := beq_iff_eq.mpr c100); (have c100b1 : (((rd_T46 l1 x10_1).f0) != 3) = false := bne_eq_false_iff_eq.mpr c100); clear c100; (by_cases c101 : ((rd_T46 l1 x10_1).f1) ≥ 2)
         ·rw [if_pos c101] at H
          (have c101b0 : decide (2 ≤ ((rd_T46 l1 x10_1).f1)) = true := decide_eq_true c101); clear c101; (by_cases c102 : (((rd_T46 l1 x10_1).f1) < (l0_0.length : Int)))
          ·rw [if_pos c102] at H
           (have c102b0 : decide (((rd_T46 l1 x10_1).f1) < (l0_0.length : Int)) = true := decide_eq_true c102); clear c102; (by_cases c103 : ((rd_T46 l1 x10_1).f2).toList = ([] : List UInt8))
           ·rw [if_pos c103] at H
            (have c103b0 : (((rd_T46 l1 x10_1).f2).toList == ([] : List UInt8)) = true := beq_iff_eq.mpr c103); (have c103b1 : (((rd_T46 l1 x10_1).f2).toList != ([] : List UInt8)) = false := bne_eq_false_iff_eq.mpr c103); clear c103; (obtain rfl := Option.some.inj H); (have p136 : 0 ≤ (x10_1 : Int) := qo qX); (have q136 : x10_1 < (l1.length : Int) := qo qX); (obtain ⟨ad136, e136, hx136_0, hx136_1, hx136_2⟩ := at_T46 HR1.out x10_1 p136 q136)
            cases e136
            (replace hx136_0 := (HB.out.cell (qB w _ hx136_0)).trans hx136_0); (replace hx136_1 := (HB.out.cell (qB w _ hx136_1)).trans hx136_1); (replace hx136_2 := (HB.out.cell (qB w _ hx136_2)).trans hx136_2); (replace p136 := eq_true p136); (replace q136 := eq_true q136)
            go_wp2_with (first | ((with_reducible refine gate_dst (N := 6) rfl ?_); (try (refine gate_guard (by rfl) ?_; dsimp only)); refine box_event ?hg (N := 6) ?hd (cs := #[.int .i64 0, .int .i64 0, .string (⟨#[]⟩ : ByteArray)]) (t := 46) ?hr ?_; (case hd => rfl); (case hg => rfl); (case hr => first | (go_simp; done) | (go_simp; rfl)); intro gb137 hg w104 hbox hb; have n0_ := qM (qb (g := gb135) qK hb); have n1_ := qM (qP qF hb); have n2_ := qM (hbox); have n3_ := qM ((by rw [hg]; exact (qZ qF) : w.heap.size ≤ gb137)); have n4_ := qM ((by rw [hg]; exact (qZ qF) : w.heap.size ≤ gb137)); have n5_ := qM ((by rw [hg]; exact Nat.ne_of_lt (ql (g := gb135) qK) : gb135 ≠ gb137)); have n6_ := qM ((by rw [hg]; exact Nat.ne_of_gt (ql (g := gb135) qK) : gb137 ≠ gb135)); clear BK135; clear HB; have BK135 := n0_; have HB := n1_; have BK137 := n2_; have GW137 := n3_; have GE137 := n4_; have NB135_137 := n5_; have NB137_135 := n6_; clear n0_ n1_ n2_ n3_ n4_ n5_ n6_; clear hb hbox hg; have hnb105 := NB137_135.out; have hnc105 := NB135_137.out; obtain ⟨hcz106_0, hcz106_1, hcz106_2, hfz106_0, hfz106_1, hfz106_2⟩ := bx3 BK137.out; obtain ⟨hcz107_0, hcz107_1, hcz107_2, hcz107_3, hcz107_4, hfz107_0, hfz107_1, hfz107_2, hfz107_3, hfz107_4⟩ := bx5 BK135.out))
            (go_ret); (exact ⟨qE, qF⟩)
           ·rw [if_neg c103] at H
            (have c103b0 : (((rd_T46 l1 x10_1).f2).toList == ([] : List UInt8)) = false := beq_eq_false_iff_ne.mpr c103); (have c103b1 : (((rd_T46 l1 x10_1).f2).toList != ([] : List UInt8)) = true := bne_iff_ne.mpr c103); (have H' := qM H); clear H; (have p136 : 0 ≤ (x10_1 : Int) := qo qX); (have q136 : x10_1 < (l1.length : Int) := qo qX); (obtain ⟨ad136, e136, hx136_0, hx136_1, hx136_2⟩ := at_T46 HR1.out x10_1 p136 q136)
            cases e136
            (replace hx136_0 := (HB.out.cell (qB w _ hx136_0)).trans hx136_0); (replace hx136_1 := (HB.out.cell (qB w _ hx136_1)).trans hx136_1); (replace hx136_2 := (HB.out.cell (qB w _ hx136_2)).trans hx136_2); (replace p136 := eq_true p136); (replace q136 := eq_true q136)
            go_wp2_with (first | ((with_reducible refine gate_dst (N := 6) rfl ?_); (try (refine gate_guard (by rfl) ?_; dsimp only)); refine box_event ?hg (N := 6) ?hd (cs := #[.int .i64 0, .int .i64 0, .string (⟨#[]⟩ : ByteArray)]) (t := 46) ?hr ?_; (case hd => rfl); (case hg => rfl); (case hr => first | (go_simp; done) | (go_simp; rfl)); intro gb137 hg w108 hbox hb; have n0_ := qM (qb (g := gb135) qK hb); have n1_ := qM (qP qF hb); have n2_ := qM (hbox); have n3_ := qM ((by rw [hg]; exact (qZ qF) : w.heap.size ≤ gb137)); have n4_ := qM ((by rw [hg]; exact (qZ qF) : w.heap.size ≤ gb137)); have n5_ := qM ((by rw [hg]; exact Nat.ne_of_lt (ql (g := gb135) qK) : gb135 ≠ gb137)); have n6_ := qM ((by rw [hg]; exact Nat.ne_of_gt (ql (g := gb135) qK) : gb137 ≠ gb135)); clear BK135; clear HB; have BK135 := n0_; have HB := n1_; have BK137 := n2_; have GW137 := n3_; have GE137 := n4_; have NB135_137 := n5_; have NB137_135 := n6_; clear n0_ n1_ n2_ n3_ n4_ n5_ n6_; clear hb hbox hg; have hnb109 := NB137_135.out; have hnc109 := NB135_137.out; obtain ⟨hcz110_0, hcz110_1, hcz110_2, hfz110_0, hfz110_1, hfz110_2⟩ := bx3 BK137.out; obtain ⟨hcz111_0, hcz111_1, hcz111_2, hcz111_3, hcz111_4, hfz111_0, hfz111_1, hfz111_2, hfz111_3, hfz111_4⟩ := bx5 BK135.out))
            go_roundg k1
            case measure => have := HK1.out; omega
            case rel => exact ⟨(wrap64 (x10_1 + 1)), qV, H', ⟨by have := HK1.out; omega⟩, ⟨by (with_reducible repeat (first | refine qn ?_ _ | refine qd ?_ | refine qa ?_ _)); refine qf ?_ NB135_137.out _; (with_reducible repeat (first | refine qn ?_ _ | refine qd ?_ | refine qa ?_ _)); refine qf ?_ NB135_137.out _; (with_reducible repeat (first | refine qn ?_ _ | refine qd ?_ | refine qa ?_ _)); refine qf ?_ NB135_137.out _; (with_reducible repeat (first | refine qn ?_ _ | refine qd ?_ | refine qa ?_ _)); exact BK135.out⟩, ⟨qF⟩⟩
          ·rw [if_neg c102] at H
           (have c102b0 : decide (((rd_T46 l1 x10_1).f1) < (l0_0.length : Int)) = false := decide_eq_false c102); clear c102; (obtain rfl := Option.some.inj H); (have p136 : 0 ≤ (x10_1 : Int) := qo qX); (have q136 : x10_1 < (l1.length : Int) := qo qX); (obtain ⟨ad136, e136, hx136_0, hx136_1, hx136_2⟩ := at_T46 HR1.out x10_1 p136 q136)
           cases e136
           (replace hx136_0 := (HB.out.cell (qB w _ hx136_0)).trans hx136_0); (replace hx136_1 := (HB.out.cell (qB w _ hx136_1)).trans hx136_1); (replace hx136_2 := (HB.out.cell (qB w _ hx136_2)).trans hx136_2); (replace p136 := eq_true p136); (replace q136 := eq_true q136)
           go_wp2_with (first | ((with_reducible refine gate_dst (N := 6) rfl ?_); (try (refine gate_guard (by rfl) ?_; dsimp only)); refine box_event ?hg (N := 6) ?hd (cs := #[.int .i64 0, .int .i64 0, .string (⟨#[]⟩ : ByteArray)]) (t := 46) ?hr ?_; (case hd => rfl); (case hg => rfl); (case hr => first | (go_simp; done) | (go_simp; rfl)); intro gb137 hg w112 hbox hb; have n0_ := qM (qb (g := gb135) qK hb); have n1_ := qM (qP qF hb); have n2_ := qM (hbox); have n3_ := qM ((by rw [hg]; exact (qZ qF) : w.heap.size ≤ gb137)); have n4_ := qM ((by rw [hg]; exact (qZ qF) : w.heap.size ≤ gb137)); have n5_ := qM ((by rw [hg]; exact Nat.ne_of_lt (ql (g := gb135) qK) : gb135 ≠ gb137)); have n6_ := qM ((by rw [hg]; exact Nat.ne_of_gt (ql (g := gb135) qK) : gb137 ≠ gb135)); clear BK135; clear HB; have BK135 := n0_; have HB := n1_; have BK137 := n2_; have GW137 := n3_; have GE137 := n4_; have NB135_137 := n5_; have NB137_135 := n6_; clear n0_ n1_ n2_ n3_ n4_ n5_ n6_; clear hb hbox hg; have hnb113 := NB137_135.out; have hnc113 := NB135_137.out; obtain ⟨hcz114_0, hcz114_1, hcz114_2, hfz114_0, hfz114_1, hfz114_2⟩ := bx3 BK137.out; obtain ⟨hcz115_0, hcz115_1, hcz115_2, hcz115_3, hcz115_4, hfz115_0, hfz115_1, hfz115_2, hfz115_3, hfz115_4⟩ := bx5 BK135.out))
           (go_ret); (exact ⟨qE, qF⟩)
         ·rw [if_neg c101] at H
          (have c101b0 : decide (2 ≤ ((rd_T46 l1 x10_1).f1)) = false := decide_eq_false c101); clear c101; (obtain rfl := Option.some.inj H); (have p136 : 0 ≤ (x10_1 : Int) := qo qX); (have q136 : x10_1 < (l1.length : Int) := qo qX); (obtain ⟨ad136, e136, hx136_0, hx136_1, hx136_2⟩ := at_T46 HR1.out x10_1 p136 q136)
          cases e136
          (replace hx136_0 := (HB.out.cell (qB w _ hx136_0)).trans hx136_0); (replace hx136_1 := (HB.out.cell (qB w _ hx136_1)).trans hx136_1); (replace hx136_2 := (HB.out.cell (qB w _ hx136_2)).trans hx136_2); (replace p136 := eq_true p136); (replace q136 := eq_true q136)
          go_wp2_with (first | ((with_reducible refine gate_dst (N := 6) rfl ?_); (try (refine gate_guard (by rfl) ?_; dsimp only)); refine box_event ?hg (N := 6) ?hd (cs := #[.int .i64 0, .int .i64 0, .string (⟨#[]⟩ : ByteArray)]) (t := 46) ?hr ?_; (case hd => rfl); (case hg => rfl); (case hr => first | (go_simp; done) | (go_simp; rfl)); intro gb137 hg w116 hbox hb; have n0_ := qM (qb (g := gb135) qK hb); have n1_ := qM (qP qF hb); have n2_ := qM (hbox); have n3_ := qM ((by rw [hg]; exact (qZ qF) : w.heap.size ≤ gb137)); have n4_ := qM ((by rw [hg]; exact (qZ qF) : w.heap.size ≤ gb137)); have n5_ := qM ((by rw [hg]; exact Nat.ne_of_lt (ql (g := gb135) qK) : gb135 ≠ gb137)); have n6_ := qM ((by rw [hg]; exact Nat.ne_of_gt (ql (g := gb135) qK) : gb137 ≠ gb135)); clear BK135; clear HB; have BK135 := n0_; have HB := n1_; have BK137 := n2_; have GW137 := n3_; have GE137 := n4_; have NB135_137 := n5_; have NB137_135 := n6_; clear n0_ n1_ n2_ n3_ n4_ n5_ n6_; clear hb hbox hg; have hnb117 := NB137_135.out; have hnc117 := NB135_137.out; obtain ⟨hcz118_0, hcz118_1, hcz118_2, hfz118_0, hfz118_1, hfz118_2⟩ := bx3 BK137.out))
          (go_ret); (exact ⟨qE, qF⟩)
        ·rw [if_neg c100] at H
         (have c100b0 : (((rd_T46 l1 x10_1).f0) == 3) = false := beq_eq_false_iff_ne.mpr c100); (have c100b1 : (((rd_T46 l1 x10_1).f0) != 3) = true := bne_iff_ne.mpr c100); (obtain rfl := Option.some.inj H); (have p136 : 0 ≤ (x10_1 : Int) := qo qX); (have q136 : x10_1 < (l1.length : Int) := qo qX); (obtain ⟨ad136, e136, hx136_0, hx136_1, hx136_2⟩ := at_T46 HR1.out x10_1 p136 q136)
         cases e136
         (replace hx136_0 := (HB.out.cell (qB w _ hx136_0)).trans hx136_0); (replace hx136_1 := (HB.out.cell (qB w _ hx136_1)).trans hx136_1); (replace hx136_2 := (HB.out.cell (qB w _ hx136_2)).trans hx136_2); (replace p136 := eq_true p136); (replace q136 := eq_true q136)
         go_wp2_with (first | ((with_reducible refine gate_dst (N := 6) rfl ?_); (try (refine gate_guard (by rfl) ?_; dsimp only)); refine box_event ?hg (N := 6) ?hd (cs := #[.int .i64 0, .int .i64 0, .string (⟨#[]⟩ : ByteArray)]) (t := 46) ?hr ?_; (case hd => rfl); (case hg => rfl); (case hr => first | (go_simp; done) | (go_simp; rfl)); intro gb137 hg w119 hbox hb; have n0_ := qM (qb (g := gb135) qK hb); have n1_ := qM (qP qF hb); have n2_ := qM (hbox); have n3_ := qM ((by rw [hg]; exact (qZ qF) : w.heap.size ≤ gb137)); have n4_ := qM ((by rw [hg]; exact (qZ qF) : w.heap.size ≤ gb137)); have n5_ := qM ((by rw [hg]; exact Nat.ne_of_lt (ql (g := gb135) qK) : gb135 ≠ gb137)); have n6_ := qM ((by rw [hg]; exact Nat.ne_of_gt (ql (g := gb135) qK) : gb137 ≠ gb135)); clear BK135; clear HB; have BK135 := n0_; have HB := n1_; have BK137 := n2_; have GW137 := n3_; have GE137 := n4_; have NB135_137 := n5_; have NB137_135 := n6_; clear n0_ n1_ n2_ n3_ n4_ n5_ n6_; clear hb hbox hg; have hnb120 := NB137_135.out; have hnc120 := NB135_137.out; obtain ⟨hcz121_0, hcz121_1, hcz121_2, hfz121_0, hfz121_1, hfz121_2⟩ := bx3 BK137.out))
         (go_ret); (exact ⟨qE, qF⟩)
     ·rw [if_neg c6] at H
      exact absurd H (by simp)
    ·rw [if_neg c5] at H
     exact absurd H (by simp)
   ·rw [if_neg c4] at H
    (have c4b0 : decide (x10_1 < (l1.length : Int)) = false := decide_eq_false c4); clear c4; (obtain rfl := Option.some.inj H); go_wp2; (go_ret); (exact ⟨qE, qF⟩)
def cst_rightLeaf.j0 : Nat → Bool → List ByteArray → List ByteArray → List Int → List (S58) → List (S61) → Int → Int → Int → Int → List (S46) → ByteArray → List (S26) → Option (Bool)
 | 0, _, _, _, _, _, _, _, _, _, _, _, _, _ => none
 | k + 1, x26, x139000, x139001, x139002, x139003, x139004, x140000, x140001, x140002, x140003, x140004, x140005, x140006 => if x26 = true then (some false) else (if x140003 = 1 then (if x140000 = 0 then (some false) else (if (x140004.length : Int) = 0 then (some (x140005.toList == ([] : List UInt8))) else (some false))) else (if x140003 = 0 then (if ((x140005.toList == ([] : List UInt8)) == (x140000 == 0)) = true then ((cst_rightLead.f k x139000 x139001 x139002 x139003 x139004 x140004).bind fun t140 => (some t140)) else (some false)) else (some false)))
def cst_rightLeaf.f (k : Nat) (l0_0 : List ByteArray) (l0_1 : List ByteArray) (l0_2 : List Int) (l0_3 : List (S58)) (l0_4 : List (S61)) (a1_0 : Int) (a1_1 : Int) (a1_2 : Int) (a1_3 : Int) (l1_4 : List (S46)) (a1_5 : ByteArray) (l1_6 : List (S26)) : Option (Bool) := if a1_1 = (-1) then (if (l1_6.length : Int) > 0 then (cst_rightLeaf.j0 k true l0_0 l0_1 l0_2 l0_3 l0_4 a1_0 a1_1 a1_2 a1_3 l1_4 a1_5 l1_6) else (if a1_0 ≥ (l0_0.length : Int) then (cst_rightLeaf.j0 k true l0_0 l0_1 l0_2 l0_3 l0_4 a1_0 a1_1 a1_2 a1_3 l1_4 a1_5 l1_6) else (cst_rightLeaf.j0 k (a1_0 == 1) l0_0 l0_1 l0_2 l0_3 l0_4 a1_0 a1_1 a1_2 a1_3 l1_4 a1_5 l1_6))) else (cst_rightLeaf.j0 k true l0_0 l0_1 l0_2 l0_3 l0_4 a1_0 a1_1 a1_2 a1_3 l1_4 a1_5 l1_6)
theorem cst_rightLeaf.mono_l : ∀ k, (∀ y0 y1 y2 y3 y4 y5 y6 y7 y8 y9 y10 y11 y12, LeO (cst_rightLeaf.j0 k y0 y1 y2 y3 y4 y5 y6 y7 y8 y9 y10 y11 y12) (cst_rightLeaf.j0 (k + 1) y0 y1 y2 y3 y4 y5 y6 y7 y8 y9 y10 y11 y12))
 | 0 => fun _ _ _ _ _ _ _ _ _ _ _ _ _ r h => by simp [cst_rightLeaf.j0] at h
 | k + 1 => by
  have ih0 := cst_rightLeaf.mono_l k
  ·intro y0 y1 y2 y3 y4 y5 y6 y7 y8 y9 y10 y11 y12
   unfold cst_rightLeaf.j0
   repeat' first
   | (with_reducible exact ih0 _ _ _ _ _ _ _ _ _ _ _ _ _)
   | (with_reducible exact cst_rightLead.mono _ _ _ _ _ _ _)
   | (with_reducible exact LeO.refl _)
   | (with_reducible exact LeO.none _)
   | (with_reducible refine LeO.ite ?_ ?_)
   | (with_reducible refine LeO.bind ?_ (fun _ => ?_))
   | exact ih0 _ _ _ _ _ _ _ _ _ _ _ _ _
   | exact cst_rightLead.mono _ _ _ _ _ _ _
   | exact LeO.none _
   | refine LeO.ite ?_ ?_
   | refine LeO.bind ?_ (fun _ => ?_)
theorem cst_rightLeaf.mono : ∀ a0 a1 a2 a3 a4 a5 a6 a7 a8 a9 a10 a11 k, LeO (cst_rightLeaf.f k a0 a1 a2 a3 a4 a5 a6 a7 a8 a9 a10 a11) (cst_rightLeaf.f (k + 1) a0 a1 a2 a3 a4 a5 a6 a7 a8 a9 a10 a11) := by
 (intro a0 a1 a2 a3 a4 a5 a6 a7 a8 a9 a10 a11 k); (have ih0 := cst_rightLeaf.mono_l k); (unfold cst_rightLeaf.f)
 repeat' first
   | (with_reducible exact ih0 _ _ _ _ _ _ _ _ _ _ _ _ _)
   | (with_reducible exact cst_rightLead.mono _ _ _ _ _ _ _)
   | (with_reducible exact LeO.refl _)
   | (with_reducible exact LeO.none _)
   | (with_reducible refine LeO.ite ?_ ?_)
   | (with_reducible refine LeO.bind ?_ (fun _ => ?_))
   | exact ih0 _ _ _ _ _ _ _ _ _ _ _ _ _
   | exact cst_rightLead.mono _ _ _ _ _ _ _
   | exact LeO.none _
   | refine LeO.ite ?_ ?_
   | refine LeO.bind ?_ (fun _ => ?_)
set_option maxHeartbeats 8000000 in
set_option maxRecDepth 100000 in
theorem cst_rightLeaf.calls (k : Nat) (A0_0 : Option Addr) (c0_0 : Nat) (l0_0 : List ByteArray) (A0_1 : Option Addr) (c0_1 : Nat) (l0_1 : List ByteArray) (A0_2 : Option Addr) (c0_2 : Nat) (l0_2 : List Int) (A0_3 : Option Addr) (c0_3 : Nat) (l0_3 : List (S58)) (A0_4 : Option Addr) (c0_4 : Nat) (l0_4 : List (S61)) (a1_0 : Int) (a1_1 : Int) (a1_2 : Int) (a1_3 : Int) (A1_4 : Option Addr) (c1_4 : Nat) (l1_4 : List (S46)) (a1_5 : ByteArray) (A1_6 : Option Addr) (c1_6 : Nat) (l1_6 : List (S26)) (r : Bool) (w : World) (hr0_0 : Kd.C Kd.string w A0_0 l0_0.length l0_0) (hc0_0 : l0_0.length ≤ c0_0) (hr0_1 : Kd.C Kd.string w A0_1 l0_1.length l0_1) (hc0_1 : l0_1.length ≤ c0_1) (hr0_2 : Kd.C (Kd.int .i64) w A0_2 l0_2.length l0_2) (hc0_2 : l0_2.length ≤ c0_2) (hr0_3 : Kd.C k58 w A0_3 l0_3.length l0_3) (hc0_3 : l0_3.length ≤ c0_3) (hr0_4 : Kd.C k61 w A0_4 l0_4.length l0_4) (hc0_4 : l0_4.length ≤ c0_4) (hr1_4 : Kd.C k46 w A1_4 l1_4.length l1_4) (hc1_4 : l1_4.length ≤ c1_4) (hr1_6 : Kd.C k26 w A1_6 l1_6.length l1_6) (hc1_6 : l1_6.length ≤ c1_6) (h : cst_rightLeaf.f k l0_0 l0_1 l0_2 l0_3 l0_4 a1_0 a1_1 a1_2 a1_3 l1_4 a1_5 l1_6 = some r) :
  Calls Tryd.prog 39 #[.agg #[.slice A0_0 l0_0.length c0_0, .slice A0_1 l0_1.length c0_1, .slice A0_2 l0_2.length c0_2, .slice A0_3 l0_3.length c0_3, .slice A0_4 l0_4.length c0_4], .agg #[.int .i64 a1_0, .int .i64 a1_1, .int .i64 a1_2, .int .i64 a1_3, .slice A1_4 l1_4.length c1_4, .string a1_5, .slice A1_6 l1_6.length c1_6]] w fun e w' => e = .returned (.bool r) ∧ Below w.heap.size w w' := by
 (have hu40 := Tryd.underlying40); (have hu26 := Tryd.underlying26); (have HR0_0 := qM hr0_0); (have HC0_0 := qM hc0_0); clear hr0_0 hc0_0; (have HR0_1 := qM hr0_1); (have HC0_1 := qM hc0_1); clear hr0_1 hc0_1; (have HR0_2 := qM hr0_2); (have HC0_2 := qM hc0_2); clear hr0_2 hc0_2; (have HR0_3 := qM hr0_3); (have HC0_3 := qM hc0_3); clear hr0_3 hc0_3; (have HR0_4 := qM hr0_4); (have HC0_4 := qM hc0_4); clear hr0_4 hc0_4; (have HR1_4 := qM hr1_4); (have HC1_4 := qM hc1_4); clear hr1_4 hc1_4; (have HR1_6 := qM hr1_6); (have HC1_6 := qM hc1_6); clear hr1_6 hc1_6; (have HB := qM (Below.refl w.heap.size w)); (have H : (if a1_1 = (-1) then (if (l1_6.length : Int) > 0 then (cst_rightLeaf.j0 k true l0_0 l0_1 l0_2 l0_3 l0_4 a1_0 a1_1 a1_2 a1_3 l1_4 a1_5 l1_6) else (if a1_0 ≥ (l0_0.length : Int) then (cst_rightLeaf.j0 k true l0_0 l0_1 l0_2 l0_3 l0_4 a1_0 a1_1 a1_2 a1_3 l1_4 a1_5 l1_6) else (cst_rightLeaf.j0 k (a1_0 == 1) l0_0 l0_1 l0_2 l0_3 l0_4 a1_0 a1_1 a1_2 a1_3 l1_4 a1_5 l1_6))) else (cst_rightLeaf.j0 k true l0_0 l0_1 l0_2 l0_3 l0_4 a1_0 a1_1 a1_2 a1_3 l1_4 a1_5 l1_6)) = some r := h); clear h; (have HC3 := qM H); clear H; (go_enter Tryd.func39, Tryd.ntmps39)
 go_upto_region 1 with (first | ((with_reducible refine gate_dst (N := 2) rfl ?_); (try (refine gate_guard (by rfl) ?_; dsimp only)); refine box_event ?hg (N := 2) ?hd (cs := #[.slice A0_0 l0_0.length c0_0, .slice A0_1 l0_1.length c0_1, .slice A0_2 l0_2.length c0_2, .slice A0_3 l0_3.length c0_3, .slice A0_4 l0_4.length c0_4]) (t := 40) ?hr ?_; (case hd => rfl); (case hg => rfl); (case hr => first | (go_simp; done) | (go_simp; rfl)); intro gb138 hg w4 hbox hb; have n0_ := qM (qP qF hb); have n1_ := qM (hbox); have n2_ := qM ((by rw [hg]; exact (qZ qF) : w.heap.size ≤ gb138)); have n3_ := qM ((by rw [hg]; exact (qZ qF) : w.heap.size ≤ gb138)); clear HB; have HB := n0_; have BK138 := n1_; have GW138 := n2_; have GE138 := n3_; clear n0_ n1_ n2_ n3_; clear hb hbox hg) | ((with_reducible refine gate_dst (N := 3) rfl ?_); (try (refine gate_guard (by rfl) ?_; dsimp only)); refine box_event ?hg (N := 3) ?hd (cs := #[.int .i64 a1_0, .int .i64 a1_1, .int .i64 a1_2, .int .i64 a1_3, .slice A1_4 l1_4.length c1_4, .string a1_5, .slice A1_6 l1_6.length c1_6]) (t := 26) ?hr ?_; (case hd => rfl); (case hg => rfl); (case hr => first | (go_simp; done) | (go_simp; rfl)); intro gb139 hg w5 hbox hb; have n0_ := qM (qb (g := gb138) qK hb); have n1_ := qM (qP qF hb); have n2_ := qM (hbox); have n3_ := qM ((by rw [hg]; exact (qZ qF) : w.heap.size ≤ gb139)); have n4_ := qM ((by rw [hg]; exact (qZ qF) : w.heap.size ≤ gb139)); have n5_ := qM ((by rw [hg]; exact Nat.ne_of_lt (ql (g := gb138) qK) : gb138 ≠ gb139)); have n6_ := qM ((by rw [hg]; exact Nat.ne_of_gt (ql (g := gb138) qK) : gb139 ≠ gb138)); clear BK138; clear HB; have BK138 := n0_; have HB := n1_; have BK139 := n2_; have GW139 := n3_; have GE139 := n4_; have NB138_139 := n5_; have NB139_138 := n6_; clear n0_ n1_ n2_ n3_ n4_ n5_ n6_; clear hb hbox hg))
 ((try simp only [Act.put, List.setIfInBounds_toArray, List.set_cons_zero, List.set_cons_succ])); (go_cut [26] (fun v26 wc => ∃ (kq : Nat) (x26_2 : Bool), v26 = .bool x26_2 ∧ Aside0 (cst_rightLeaf.j0 kq x26_2 l0_0 l0_1 l0_2 l0_3 l0_4 a1_0 a1_1 a1_2 a1_3 l1_4 a1_5 l1_6 = some r) ∧ Aside0 (kq ≤ k) ∧ Aside0 (wc.heap[gb138]? = some (.cells #[(.slice A0_0 l0_0.length c0_0), (.slice A0_1 l0_1.length c0_1), (.slice A0_2 l0_2.length c0_2), (.slice A0_3 l0_3.length c0_3), (.slice A0_4 l0_4.length c0_4)] 40 (0, 0))) ∧ Aside0 (wc.heap[gb139]? = some (.cells #[.int .i64 a1_0, .int .i64 a1_1, .int .i64 a1_2, .int .i64 a1_3, (.slice A1_4 l1_4.length c1_4), .string a1_5, (.slice A1_6 l1_6.length c1_6)] 26 (0, 0))) ∧ Aside0 (Below w.heap.size w wc)))
 case first =>
  (have H := HC3.out); clear HC3; (by_cases c6 : a1_1 = (-1))
  ·rw [if_pos c6] at H
   (have c6b0 : (a1_1 == (-1)) = true := beq_iff_eq.mpr c6); (have c6b1 : (a1_1 != (-1)) = false := bne_eq_false_iff_eq.mpr c6); clear c6; ((first | rw [c6b0] | (simp only [i64_w, i32_w]; rw [c6b0]) | skip)); (by_cases c7 : (l1_6.length : Int) > 0)
   ·rw [if_pos c7] at H
    (have c7b0 : decide (0 < (l1_6.length : Int)) = true := decide_eq_true c7); (have c7b1 : decide (0 < l1_6.length) = true := decide_eq_true (by omega)); clear c7; (have H' := qM H); clear H; (have hnb8 := NB139_138.out); (have hnc8 := NB138_139.out); (obtain ⟨hcz9_0, hcz9_1, hcz9_2, hcz9_3, hcz9_4, hcz9_5, hcz9_6, hfz9_0, hfz9_1, hfz9_2, hfz9_3, hfz9_4, hfz9_5, hfz9_6⟩ := bx7 BK139.out); go_wp2; go_meet
    case rel => exact ⟨_, (true), qV, H', ⟨by first | omega | exact Nat.le_refl _⟩, ⟨qK⟩, ⟨qK⟩, ⟨qF⟩⟩
   ·rw [if_neg c7] at H
    (have c7b0 : decide (0 < (l1_6.length : Int)) = false := decide_eq_false c7); (have c7b1 : decide (0 < l1_6.length) = false := decide_eq_false (by omega)); clear c7; (by_cases c10 : a1_0 ≥ (l0_0.length : Int))
    ·rw [if_pos c10] at H
     (have c10b0 : decide ((l0_0.length : Int) ≤ a1_0) = true := decide_eq_true c10); clear c10; (have H' := qM H); clear H; (have hnb11 := NB139_138.out); (have hnc11 := NB138_139.out); (obtain ⟨hcz12_0, hcz12_1, hcz12_2, hcz12_3, hcz12_4, hcz12_5, hcz12_6, hfz12_0, hfz12_1, hfz12_2, hfz12_3, hfz12_4, hfz12_5, hfz12_6⟩ := bx7 BK139.out); (obtain ⟨hcz13_0, hcz13_1, hcz13_2, hcz13_3, hcz13_4, hfz13_0, hfz13_1, hfz13_2, hfz13_3, hfz13_4⟩ := bx5 BK138.out); go_wp2; go_meet
     case rel => exact ⟨_, (true), qV, H', ⟨by first | omega | exact Nat.le_refl _⟩, ⟨qK⟩, ⟨qK⟩, ⟨qF⟩⟩
    ·rw [if_neg c10] at H
     (have c10b0 : decide ((l0_0.length : Int) ≤ a1_0) = false := decide_eq_false c10); clear c10; (have H' := qM H); clear H; (have hnb14 := NB139_138.out); (have hnc14 := NB138_139.out); (obtain ⟨hcz15_0, hcz15_1, hcz15_2, hcz15_3, hcz15_4, hcz15_5, hcz15_6, hfz15_0, hfz15_1, hfz15_2, hfz15_3, hfz15_4, hfz15_5, hfz15_6⟩ := bx7 BK139.out); (obtain ⟨hcz16_0, hcz16_1, hcz16_2, hcz16_3, hcz16_4, hfz16_0, hfz16_1, hfz16_2, hfz16_3, hfz16_4⟩ := bx5 BK138.out); go_wp2; go_meet
     case rel => exact ⟨_, ((a1_0 == 1)), qV, H', ⟨by first | omega | exact Nat.le_refl _⟩, ⟨qK⟩, ⟨qK⟩, ⟨qF⟩⟩
  ·rw [if_neg c6] at H
   (have c6b0 : (a1_1 == (-1)) = false := beq_eq_false_iff_ne.mpr c6); (have c6b1 : (a1_1 != (-1)) = true := bne_iff_ne.mpr c6); ((first | rw [c6b0] | (simp only [i64_w, i32_w]; rw [c6b0]) | skip)); (have H' := qM H); clear H; (have hnb17 := NB139_138.out); (have hnc17 := NB138_139.out); (obtain ⟨hcz18_0, hcz18_1, hcz18_2, hcz18_3, hcz18_4, hcz18_5, hcz18_6, hfz18_0, hfz18_1, hfz18_2, hfz18_3, hfz18_4, hfz18_5, hfz18_6⟩ := bx7 BK139.out); go_wp2; go_meet
   case rel => exact ⟨_, (true), qV, H', ⟨by first | omega | exact Nat.le_refl _⟩, ⟨qK⟩, ⟨qK⟩, ⟨qF⟩⟩
 case rest =>
  clear HC3; (try clear c1); (try clear p2); (try clear c3); (try clear c6); (try clear c6b0); (try clear c6b1); (try clear c7); (try clear c7b0); (try clear c7b1); (try clear c8); (try clear c10); (try clear c10b0); (try clear c11); (try clear c14); (try clear c17); (try clear hcz12_0 hcz12_1 hcz12_2 hcz12_3 hcz12_4 hcz12_5 hcz12_6); (try clear hcz13_0 hcz13_1 hcz13_2 hcz13_3 hcz13_4); (try clear hcz15_0 hcz15_1 hcz15_2 hcz15_3 hcz15_4 hcz15_5 hcz15_6); (try clear hcz16_0 hcz16_1 hcz16_2 hcz16_3 hcz16_4); (try clear hcz18_0 hcz18_1 hcz18_2 hcz18_3 hcz18_4 hcz18_5 hcz18_6); (try clear hcz9_0 hcz9_1 hcz9_2 hcz9_3 hcz9_4 hcz9_5 hcz9_6); (try clear hfz12_0 hfz12_1 hfz12_2 hfz12_3 hfz12_4 hfz12_5 hfz12_6); (try clear hfz13_0 hfz13_1 hfz13_2 hfz13_3 hfz13_4); (try clear hfz15_0 hfz15_1 hfz15_2 hfz15_3 hfz15_4 hfz15_5 hfz15_6); (try clear hfz16_0 hfz16_1 hfz16_2 hfz16_3 hfz16_4); (try clear hfz18_0 hfz18_1 hfz18_2 hfz18_3 hfz18_4 hfz18_5 hfz18_6); (try clear hfz9_0 hfz9_1 hfz9_2 hfz9_3 hfz9_4 hfz9_5 hfz9_6); (obtain ⟨kq, x26_2, rfl, HA, HJ2, BK138, BK139, HB⟩ := hcut)
  cases kq with
  | zero => exact absurd HA.out (by simp [cst_rightLeaf.j0])
  | succ kj2 =>
   (have H := HA.out); clear HA; (simp only [cst_rightLeaf.j0] at H); (by_cases c19 : x26_2 = true)
   ·subst c19
    (have H1 : (some false) = some r := by rw [if_pos rfl] at H; exact H); clear H; (have H := H1); clear H1; (obtain rfl := Option.some.inj H); go_wp2; (go_ret); (exact ⟨qE, qF⟩)
   ·replace c19 := Bool.eq_false_iff.mpr c19
    subst c19; (have H1 : (if a1_3 = 1 then (if a1_0 = 0 then (some false) else (if (l1_4.length : Int) = 0 then (some (a1_5.toList == ([] : List UInt8))) else (some false))) else (if a1_3 = 0 then (if ((a1_5.toList == ([] : List UInt8)) == (a1_0 == 0)) = true then ((cst_rightLead.f kj2 l0_0 l0_1 l0_2 l0_3 l0_4 l1_4).bind fun t140 => (some t140)) else (some false)) else (some false))) = some r := by rw [if_neg (show ¬ (false = true) by decide)] at H; exact H); clear H; (have H := H1); clear H1; (by_cases c20 : a1_3 = 1)
    ·rw [if_pos c20] at H
     (have c20b0 : (a1_3 == 1) = true := beq_iff_eq.mpr c20); (have c20b1 : (a1_3 != 1) = false := bne_eq_false_iff_eq.mpr c20); clear c20; (by_cases c21 : a1_0 = 0)
     ·rw [if_pos c21] at H
      (have c21b0 : (a1_0 == 0) = true := beq_iff_eq.mpr c21); (have c21b1 : (a1_0 != 0) = false := bne_eq_false_iff_eq.mpr c21); clear c21; (obtain rfl := Option.some.inj H); (have hnb22 := NB139_138.out); (have hnc22 := NB138_139.out); (obtain ⟨hcz23_0, hcz23_1, hcz23_2, hcz23_3, hcz23_4, hcz23_5, hcz23_6, hfz23_0, hfz23_1, hfz23_2, hfz23_3, hfz23_4, hfz23_5, hfz23_6⟩ := bx7 BK139.out); go_wp2; (go_ret); (exact ⟨qE, qF⟩)
     ·rw [if_neg c21] at H
      (have c21b0 : (a1_0 == 0) = false := beq_eq_false_iff_ne.mpr c21); (have c21b1 : (a1_0 != 0) = true := bne_iff_ne.mpr c21); (by_cases c24 : (l1_4.length : Int) = 0)
      ·rw [if_pos c24] at H
       (have c24b0 : ((l1_4.length : Int) == 0) = true := beq_iff_eq.mpr c24); (have c24b1 : ((l1_4.length : Int) != 0) = false := bne_eq_false_iff_eq.mpr c24); clear c24; (obtain rfl := Option.some.inj H); (have hnb25 := NB139_138.out); (have hnc25 := NB138_139.out); (obtain ⟨hcz26_0, hcz26_1, hcz26_2, hcz26_3, hcz26_4, hcz26_5, hcz26_6, hfz26_0, hfz26_1, hfz26_2, hfz26_3, hfz26_4, hfz26_5, hfz26_6⟩ := bx7 BK139.out); go_wp2; (go_ret); (exact ⟨qE, qF⟩)
      ·rw [if_neg c24] at H
       (have c24b0 : ((l1_4.length : Int) == 0) = false := beq_eq_false_iff_ne.mpr c24); (have c24b1 : ((l1_4.length : Int) != 0) = true := bne_iff_ne.mpr c24); (have c24b2 : ¬ (l1_4 = []) := fun h_ => c24 (by rw [h_]; rfl)); (obtain rfl := Option.some.inj H); (have hnb27 := NB139_138.out); (have hnc27 := NB138_139.out); (obtain ⟨hcz28_0, hcz28_1, hcz28_2, hcz28_3, hcz28_4, hcz28_5, hcz28_6, hfz28_0, hfz28_1, hfz28_2, hfz28_3, hfz28_4, hfz28_5, hfz28_6⟩ := bx7 BK139.out); go_wp2; (go_ret); (exact ⟨qE, qF⟩)
    ·rw [if_neg c20] at H
     (have c20b0 : (a1_3 == 1) = false := beq_eq_false_iff_ne.mpr c20); (have c20b1 : (a1_3 != 1) = true := bne_iff_ne.mpr c20); (by_cases c29 : a1_3 = 0)
     ·rw [if_pos c29] at H
      (have c29b0 : (a1_3 == 0) = true := beq_iff_eq.mpr c29); (have c29b1 : (a1_3 != 0) = false := bne_eq_false_iff_eq.mpr c29); clear c29; (by_cases c30 : ((a1_5.toList == ([] : List UInt8)) == (a1_0 == 0)) = true)
      ·rw [if_pos c30] at H
       (have c30b0 : ((a1_5.toList == ([] : List UInt8)) == (a1_0 == 0)) = true := c30); (have c30b0e : (a1_5.toList.isEmpty == (a1_0 == 0)) = true := by rw [show a1_5.toList.isEmpty = (a1_5.toList == ([] : List UInt8)) from by cases a1_5.toList <;> rfl]; exact c30b0); ((try (have c30b1 : decide ((a1_5.toList == ([] : List UInt8)) = (a1_0 == 0)) = true := by simpa using c30))); ((try (have c30b2 : ((a1_5.toList == ([] : List UInt8)) == (a1_0 == 0)) = true := by simpa using c30))); clear c30; (replace H := Option.bind_eq_some_iff.mp H); (obtain ⟨t140, A310, H⟩ := H); (replace H : (some t140) = some r := H); (have A31 := qM A310); clear A310; (obtain rfl := Option.some.inj H); (have hnb32 := NB139_138.out); (have hnc32 := NB138_139.out); (obtain ⟨hcz33_0, hcz33_1, hcz33_2, hcz33_3, hcz33_4, hcz33_5, hcz33_6, hfz33_0, hfz33_1, hfz33_2, hfz33_3, hfz33_4, hfz33_5, hfz33_6⟩ := bx7 BK139.out); (obtain ⟨hcz34_0, hcz34_1, hcz34_2, hcz34_3, hcz34_4, hfz34_0, hfz34_1, hfz34_2, hfz34_3, hfz34_4⟩ := bx5 BK138.out)
       go_wp2_with (first | (go_at_call 56; (with_reducible refine (cst_rightLead.calls kj2 _ _ l0_0 _ _ l0_1 _ _ l0_2 _ _ l0_3 _ _ l0_4 _ _ l1_4 t140 _ ?side1 ?side2 ?side3 ?side4 ?side5 ?side6 ?side7 ?side8 ?side9 ?side10 ?side11 ?side12 A31.out).mono ?_); (case side1 => exact qC HR0_0.out qF); (case side2 => exact HC0_0.out); (case side3 => exact qC HR0_1.out qF); (case side4 => exact HC0_1.out); (case side5 => exact qC HR0_2.out qF); (case side6 => exact HC0_2.out); (case side7 => exact qC HR0_3.out qF); (case side8 => exact HC0_3.out); (case side9 => exact qC HR0_4.out qF); (case side10 => exact HC0_4.out); (case side11 => exact qC HR1_4.out qF); (case side12 => exact HC1_4.out); rintro e w35 ⟨rfl, hb⟩; have n0_ := qM (qb (g := gb138) qK hb); have n1_ := qM (qb (g := gb139) qK hb); have n2_ := qM (qP qF hb); clear BK138; clear BK139; clear HB; have BK138 := n0_; have BK139 := n1_; have HB := n2_; clear n0_ n1_ n2_; (try clear hb); (try clear hb2); (try clear hk); (try clear hi)))
       (go_ret); (exact ⟨qE, qF⟩)
      ·rw [if_neg c30] at H
       (have c30b0 : ((a1_5.toList == ([] : List UInt8)) == (a1_0 == 0)) = false := by simpa using c30); (have c30b0e : (a1_5.toList.isEmpty == (a1_0 == 0)) = false := by rw [show a1_5.toList.isEmpty = (a1_5.toList == ([] : List UInt8)) from by cases a1_5.toList <;> rfl]; exact c30b0); ((try (have c30b1 : decide ((a1_5.toList == ([] : List UInt8)) = (a1_0 == 0)) = false := by simpa using c30))); ((try (have c30b2 : ((a1_5.toList == ([] : List UInt8)) == (a1_0 == 0)) = false := by simpa using c30))); ((try (have c30b3 : ¬ ((a1_5.toList == ([] : List UInt8)) = (a1_0 == 0)) := by simpa using c30))); clear c30; (obtain rfl := Option.some.inj H); (have hnb36 := NB139_138.out); (have hnc36 := NB138_139.out); (obtain ⟨hcz37_0, hcz37_1, hcz37_2, hcz37_3, hcz37_4, hcz37_5, hcz37_6, hfz37_0, hfz37_1, hfz37_2, hfz37_3, hfz37_4, hfz37_5, hfz37_6⟩ := bx7 BK139.out); go_wp2; (go_ret); (exact ⟨qE, qF⟩)
     ·rw [if_neg c29] at H
      (have c29b0 : (a1_3 == 0) = false := beq_eq_false_iff_ne.mpr c29); (have c29b1 : (a1_3 != 0) = true := bne_iff_ne.mpr c29); (obtain rfl := Option.some.inj H); (have hnb38 := NB139_138.out); (have hnc38 := NB138_139.out); (obtain ⟨hcz39_0, hcz39_1, hcz39_2, hcz39_3, hcz39_4, hcz39_5, hcz39_6, hfz39_0, hfz39_1, hfz39_2, hfz39_3, hfz39_4, hfz39_5, hfz39_6⟩ := bx7 BK139.out); go_wp2; (go_ret); (exact ⟨qE, qF⟩)
mutual
def cst_rightInner.j0 : Nat → Bool → List ByteArray → List ByteArray → List Int → List (S58) → List (S61) → Int → Int → Int → Int → List (S46) → ByteArray → List (S26) → Option (Bool)
 | 0, _, _, _, _, _, _, _, _, _, _, _, _, _ => none
 | k + 1, x25, x142000, x142001, x142002, x142003, x142004, x143000, x143001, x143002, x143003, x143004, x143005, x143006 => if x25 = true then (some false) else (if x143003 = 2 then (some (x143001 == (-1))) else (if x143003 = 0 then (if x143001 < 0 then (cst_rightInner.j1 k true x142000 x142001 x142002 x142003 x142004 x143000 x143001 x143002 x143003 x143004 x143005 x143006) else (cst_rightInner.j1 k (decide (x143001 ≥ (x142003.length : Int))) x142000 x142001 x142002 x142003 x142004 x143000 x143001 x143002 x143003 x143004 x143005 x143006)) else (cst_rightInner.j1 k true x142000 x142001 x142002 x142003 x142004 x143000 x143001 x143002 x143003 x143004 x143005 x143006)))
def cst_rightInner.j1 : Nat → Bool → List ByteArray → List ByteArray → List Int → List (S58) → List (S61) → Int → Int → Int → Int → List (S46) → ByteArray → List (S26) → Option (Bool)
 | 0, _, _, _, _, _, _, _, _, _, _, _, _, _ => none
 | k + 1, x47, x142000, x142001, x142002, x142003, x142004, x143000, x143001, x143002, x143003, x143004, x143005, x143006 => if x47 = true then (some false) else (if 0 ≤ x143001 then (if x143001 < (x142003.length : Int) then (if ((rd_T58 x142003 x143001).f0) = (wrap64 ((-1) - x143000)) then (cst_rightInner.j2 k ((((rd_T58 x142003 x143001).f1).length : Int) != (x143006.length : Int)) x143000 x143001 x143002 x143003 x143004 x143005 x143006 ((rd_T58 x142003 x143001).f0) ((rd_T58 x142003 x143001).f1) ((rd_T58 x142003 x143001).f2) ((rd_T58 x142003 x143001).f3) ((rd_T58 x142003 x143001).f4)) else (cst_rightInner.j2 k true x143000 x143001 x143002 x143003 x143004 x143005 x143006 ((rd_T58 x142003 x143001).f0) ((rd_T58 x142003 x143001).f1) ((rd_T58 x142003 x143001).f2) ((rd_T58 x142003 x143001).f3) ((rd_T58 x142003 x143001).f4))) else (none)) else (none))
def cst_rightInner.j2 : Nat → Bool → Int → Int → Int → Int → List (S46) → ByteArray → List (S26) → Int → List Int → List ByteArray → ByteArray → Int → Option (Bool)
 | 0, _, _, _, _, _, _, _, _, _, _, _, _, _ => none
 | k + 1, x68, x143000, x143001, x143002, x143003, x143004, x143005, x143006, x145000, x145001, x145002, x145003, x145004 => if x68 = true then (some false) else (cst_rightInner.l0 k x145001 (x145001.length : Int) 0 x143000 x143001 x143002 x143003 x143004 x143005 x143006)
def cst_rightInner.l0 : Nat → List Int → Int → Int → Int → Int → Int → Int → List (S46) → ByteArray → List (S26) → Option (Bool)
 | 0, _, _, _, _, _, _, _, _, _, _ => none
 | k + 1, x70, x71, x72, x143000, x143001, x143002, x143003, x143004, x143005, x143006 => if x72 < x71 then (if 0 ≤ x72 then (if x72 < (x70.length : Int) then (if x72 < (x143006.length : Int) then (if ((rd_T26 x143006 x72).f0) = (rd x70 x72) then (cst_rightInner.l0 k x70 x71 (wrap64 (x72 + 1)) x143000 x143001 x143002 x143003 x143004 x143005 x143006) else (some false)) else (none)) else (none)) else (none)) else (some true)
end
def cst_rightInner.f (k : Nat) (l0_0 : List ByteArray) (l0_1 : List ByteArray) (l0_2 : List Int) (l0_3 : List (S58)) (l0_4 : List (S61)) (a1_0 : Int) (a1_1 : Int) (a1_2 : Int) (a1_3 : Int) (l1_4 : List (S46)) (a1_5 : ByteArray) (l1_6 : List (S26)) : Option (Bool) := if (wrap64 ((-1) - a1_0)) ≥ (l0_1.length : Int) then (cst_rightInner.j0 k true l0_0 l0_1 l0_2 l0_3 l0_4 a1_0 a1_1 a1_2 a1_3 l1_4 a1_5 l1_6) else (if (l1_4.length : Int) > 0 then (cst_rightInner.j0 k true l0_0 l0_1 l0_2 l0_3 l0_4 a1_0 a1_1 a1_2 a1_3 l1_4 a1_5 l1_6) else (cst_rightInner.j0 k (a1_5.toList != ([] : List UInt8)) l0_0 l0_1 l0_2 l0_3 l0_4 a1_0 a1_1 a1_2 a1_3 l1_4 a1_5 l1_6))
theorem cst_rightInner.mono_l : ∀ k, (∀ y0 y1 y2 y3 y4 y5 y6 y7 y8 y9 y10 y11 y12, LeO (cst_rightInner.j0 k y0 y1 y2 y3 y4 y5 y6 y7 y8 y9 y10 y11 y12) (cst_rightInner.j0 (k + 1) y0 y1 y2 y3 y4 y5 y6 y7 y8 y9 y10 y11 y12)) ∧ (∀ y0 y1 y2 y3 y4 y5 y6 y7 y8 y9 y10 y11 y12, LeO (cst_rightInner.j1 k y0 y1 y2 y3 y4 y5 y6 y7 y8 y9 y10 y11 y12) (cst_rightInner.j1 (k + 1) y0 y1 y2 y3 y4 y5 y6 y7 y8 y9 y10 y11 y12)) ∧ (∀ y0 y1 y2 y3 y4 y5 y6 y7 y8 y9 y10 y11 y12, LeO (cst_rightInner.j2 k y0 y1 y2 y3 y4 y5 y6 y7 y8 y9 y10 y11 y12) (cst_rightInner.j2 (k + 1) y0 y1 y2 y3 y4 y5 y6 y7 y8 y9 y10 y11 y12)) ∧ (∀ y0 y1 y2 y3 y4 y5 y6 y7 y8 y9, LeO (cst_rightInner.l0 k y0 y1 y2 y3 y4 y5 y6 y7 y8 y9) (cst_rightInner.l0 (k + 1) y0 y1 y2 y3 y4 y5 y6 y7 y8 y9))
 | 0 => ⟨fun _ _ _ _ _ _ _ _ _ _ _ _ _ r h => by simp [cst_rightInner.j0] at h, fun _ _ _ _ _ _ _ _ _ _ _ _ _ r h => by simp [cst_rightInner.j1] at h, fun _ _ _ _ _ _ _ _ _ _ _ _ _ r h => by simp [cst_rightInner.j2] at h, fun _ _ _ _ _ _ _ _ _ _ r h => by simp [cst_rightInner.l0] at h⟩
 | k + 1 => by
  (obtain ⟨ih0, ih1, ih2, ih3⟩ := cst_rightInner.mono_l k); (refine ⟨?_, ?_, ?_, ?_⟩)
  ·intro y0 y1 y2 y3 y4 y5 y6 y7 y8 y9 y10 y11 y12
   unfold cst_rightInner.j0
   repeat' first
   | (with_reducible exact ih0 _ _ _ _ _ _ _ _ _ _ _ _ _)
   | (with_reducible exact ih1 _ _ _ _ _ _ _ _ _ _ _ _ _)
   | (with_reducible exact ih2 _ _ _ _ _ _ _ _ _ _ _ _ _)
   | (with_reducible exact ih3 _ _ _ _ _ _ _ _ _ _)
   | (with_reducible exact LeO.refl _)
   | (with_reducible exact LeO.none _)
   | (with_reducible refine LeO.ite ?_ ?_)
   | (with_reducible refine LeO.bind ?_ (fun _ => ?_))
   | exact ih0 _ _ _ _ _ _ _ _ _ _ _ _ _
   | exact ih1 _ _ _ _ _ _ _ _ _ _ _ _ _
   | exact ih2 _ _ _ _ _ _ _ _ _ _ _ _ _
   | exact ih3 _ _ _ _ _ _ _ _ _ _
   | exact LeO.none _
   | refine LeO.ite ?_ ?_
   | refine LeO.bind ?_ (fun _ => ?_)
  ·intro y0 y1 y2 y3 y4 y5 y6 y7 y8 y9 y10 y11 y12
   unfold cst_rightInner.j1
   repeat' first
   | (with_reducible exact ih0 _ _ _ _ _ _ _ _ _ _ _ _ _)
   | (with_reducible exact ih1 _ _ _ _ _ _ _ _ _ _ _ _ _)
   | (with_reducible exact ih2 _ _ _ _ _ _ _ _ _ _ _ _ _)
   | (with_reducible exact ih3 _ _ _ _ _ _ _ _ _ _)
   | (with_reducible exact LeO.refl _)
   | (with_reducible exact LeO.none _)
   | (with_reducible refine LeO.ite ?_ ?_)
   | (with_reducible refine LeO.bind ?_ (fun _ => ?_))
   | exact ih0 _ _ _ _ _ _ _ _ _ _ _ _ _
   | exact ih1 _ _ _ _ _ _ _ _ _ _ _ _ _
   | exact ih2 _ _ _ _ _ _ _ _ _ _ _ _ _
   | exact ih3 _ _ _ _ _ _ _ _ _ _
   | exact LeO.none _
   | refine LeO.ite ?_ ?_
   | refine LeO.bind ?_ (fun _ => ?_)
  ·intro y0 y1 y2 y3 y4 y5 y6 y7 y8 y9 y10 y11 y12
   unfold cst_rightInner.j2
   repeat' first
   | (with_reducible exact ih0 _ _ _ _ _ _ _ _ _ _ _ _ _)
   | (with_reducible exact ih1 _ _ _ _ _ _ _ _ _ _ _ _ _)
   | (with_reducible exact ih2 _ _ _ _ _ _ _ _ _ _ _ _ _)
   | (with_reducible exact ih3 _ _ _ _ _ _ _ _ _ _)
   | (with_reducible exact LeO.refl _)
   | (with_reducible exact LeO.none _)
   | (with_reducible refine LeO.ite ?_ ?_)
   | (with_reducible refine LeO.bind ?_ (fun _ => ?_))
   | exact ih0 _ _ _ _ _ _ _ _ _ _ _ _ _
   | exact ih1 _ _ _ _ _ _ _ _ _ _ _ _ _
   | exact ih2 _ _ _ _ _ _ _ _ _ _ _ _ _
   | exact ih3 _ _ _ _ _ _ _ _ _ _
   | exact LeO.none _
   | refine LeO.ite ?_ ?_
   | refine LeO.bind ?_ (fun _ => ?_)
  ·intro y0 y1 y2 y3 y4 y5 y6 y7 y8 y9
   unfold cst_rightInner.l0
   repeat' first
   | (with_reducible exact ih0 _ _ _ _ _ _ _ _ _ _ _ _ _)
   | (with_reducible exact ih1 _ _ _ _ _ _ _ _ _ _ _ _ _)
   | (with_reducible exact ih2 _ _ _ _ _ _ _ _ _ _ _ _ _)
   | (with_reducible exact ih3 _ _ _ _ _ _ _ _ _ _)
   | (with_reducible exact LeO.refl _)
   | (with_reducible exact LeO.none _)
   | (with_reducible refine LeO.ite ?_ ?_)
   | (with_reducible refine LeO.bind ?_ (fun _ => ?_))
   | exact ih0 _ _ _ _ _ _ _ _ _ _ _ _ _
   | exact ih1 _ _ _ _ _ _ _ _ _ _ _ _ _
   | exact ih2 _ _ _ _ _ _ _ _ _ _ _ _ _
   | exact ih3 _ _ _ _ _ _ _ _ _ _
   | exact LeO.none _
   | refine LeO.ite ?_ ?_
   | refine LeO.bind ?_ (fun _ => ?_)
theorem cst_rightInner.mono : ∀ a0 a1 a2 a3 a4 a5 a6 a7 a8 a9 a10 a11 k, LeO (cst_rightInner.f k a0 a1 a2 a3 a4 a5 a6 a7 a8 a9 a10 a11) (cst_rightInner.f (k + 1) a0 a1 a2 a3 a4 a5 a6 a7 a8 a9 a10 a11) := by
 (intro a0 a1 a2 a3 a4 a5 a6 a7 a8 a9 a10 a11 k); (obtain ⟨ih0, ih1, ih2, ih3⟩ := cst_rightInner.mono_l k); (unfold cst_rightInner.f)
 repeat' first
   | (with_reducible exact ih0 _ _ _ _ _ _ _ _ _ _ _ _ _)
   | (with_reducible exact ih1 _ _ _ _ _ _ _ _ _ _ _ _ _)
   | (with_reducible exact ih2 _ _ _ _ _ _ _ _ _ _ _ _ _)
   | (with_reducible exact ih3 _ _ _ _ _ _ _ _ _ _)
   | (with_reducible exact LeO.refl _)
   | (with_reducible exact LeO.none _)
   | (with_reducible refine LeO.ite ?_ ?_)
   | (with_reducible refine LeO.bind ?_ (fun _ => ?_))
   | exact ih0 _ _ _ _ _ _ _ _ _ _ _ _ _
   | exact ih1 _ _ _ _ _ _ _ _ _ _ _ _ _
   | exact ih2 _ _ _ _ _ _ _ _ _ _ _ _ _
   | exact ih3 _ _ _ _ _ _ _ _ _ _
   | exact LeO.none _
   | refine LeO.ite ?_ ?_
   | refine LeO.bind ?_ (fun _ => ?_)
set_option maxHeartbeats 8000000 in
set_option maxRecDepth 100000 in
theorem cst_rightInner.calls (k : Nat) (A0_0 : Option Addr) (c0_0 : Nat) (l0_0 : List ByteArray) (A0_1 : Option Addr) (c0_1 : Nat) (l0_1 : List ByteArray) (A0_2 : Option Addr) (c0_2 : Nat) (l0_2 : List Int) (A0_3 : Option Addr) (c0_3 : Nat) (l0_3 : List (S58)) (A0_4 : Option Addr) (c0_4 : Nat) (l0_4 : List (S61)) (a1_0 : Int) (a1_1 : Int) (a1_2 : Int) (a1_3 : Int) (A1_4 : Option Addr) (c1_4 : Nat) (l1_4 : List (S46)) (a1_5 : ByteArray) (A1_6 : Option Addr) (c1_6 : Nat) (l1_6 : List (S26)) (r : Bool) (w : World) (hr0_0 : Kd.C Kd.string w A0_0 l0_0.length l0_0) (hc0_0 : l0_0.length ≤ c0_0) (hr0_1 : Kd.C Kd.string w A0_1 l0_1.length l0_1) (hc0_1 : l0_1.length ≤ c0_1) (hr0_2 : Kd.C (Kd.int .i64) w A0_2 l0_2.length l0_2) (hc0_2 : l0_2.length ≤ c0_2) (hr0_3 : Kd.C k58 w A0_3 l0_3.length l0_3) (hc0_3 : l0_3.length ≤ c0_3) (hr0_4 : Kd.C k61 w A0_4 l0_4.length l0_4) (hc0_4 : l0_4.length ≤ c0_4) (hr1_4 : Kd.C k46 w A1_4 l1_4.length l1_4) (hc1_4 : l1_4.length ≤ c1_4) (hr1_6 : Kd.C k26 w A1_6 l1_6.length l1_6) (hc1_6 : l1_6.length ≤ c1_6) (h : cst_rightInner.f k l0_0 l0_1 l0_2 l0_3 l0_4 a1_0 a1_1 a1_2 a1_3 l1_4 a1_5 l1_6 = some r) :
  Calls Tryd.prog 40 #[.agg #[.slice A0_0 l0_0.length c0_0, .slice A0_1 l0_1.length c0_1, .slice A0_2 l0_2.length c0_2, .slice A0_3 l0_3.length c0_3, .slice A0_4 l0_4.length c0_4], .agg #[.int .i64 a1_0, .int .i64 a1_1, .int .i64 a1_2, .int .i64 a1_3, .slice A1_4 l1_4.length c1_4, .string a1_5, .slice A1_6 l1_6.length c1_6]] w fun e w' => e = .returned (.bool r) ∧ Below w.heap.size w w' := by
 (have hu40 := Tryd.underlying40); (have hu26 := Tryd.underlying26); (have hu58 := Tryd.underlying58); (have HR0_0 := qM hr0_0); (have HC0_0 := qM hc0_0); clear hr0_0 hc0_0; (have HR0_1 := qM hr0_1); (have HC0_1 := qM hc0_1); clear hr0_1 hc0_1; (have HR0_2 := qM hr0_2); (have HC0_2 := qM hc0_2); clear hr0_2 hc0_2; (have HR0_3 := qM hr0_3); (have HC0_3 := qM hc0_3); clear hr0_3 hc0_3; (have HR0_4 := qM hr0_4); (have HC0_4 := qM hc0_4); clear hr0_4 hc0_4; (have HR1_4 := qM hr1_4); (have HC1_4 := qM hc1_4); clear hr1_4 hc1_4; (have HR1_6 := qM hr1_6); (have HC1_6 := qM hc1_6); clear hr1_6 hc1_6; (have HB := qM (Below.refl w.heap.size w)); (have H : (if (wrap64 ((-1) - a1_0)) ≥ (l0_1.length : Int) then (cst_rightInner.j0 k true l0_0 l0_1 l0_2 l0_3 l0_4 a1_0 a1_1 a1_2 a1_3 l1_4 a1_5 l1_6) else (if (l1_4.length : Int) > 0 then (cst_rightInner.j0 k true l0_0 l0_1 l0_2 l0_3 l0_4 a1_0 a1_1 a1_2 a1_3 l1_4 a1_5 l1_6) else (cst_rightInner.j0 k (a1_5.toList != ([] : List UInt8)) l0_0 l0_1 l0_2 l0_3 l0_4 a1_0 a1_1 a1_2 a1_3 l1_4 a1_5 l1_6))) = some r := h); clear h; (have HC3 := qM H); clear H; (go_enter Tryd.func40, Tryd.ntmps40)
 go_upto_region 1 with (first | ((with_reducible refine gate_dst (N := 2) rfl ?_); (try (refine gate_guard (by rfl) ?_; dsimp only)); refine box_event ?hg (N := 2) ?hd (cs := #[.slice A0_0 l0_0.length c0_0, .slice A0_1 l0_1.length c0_1, .slice A0_2 l0_2.length c0_2, .slice A0_3 l0_3.length c0_3, .slice A0_4 l0_4.length c0_4]) (t := 40) ?hr ?_; (case hd => rfl); (case hg => rfl); (case hr => first | (go_simp; done) | (go_simp; rfl)); intro gb141 hg w4 hbox hb; have n0_ := qM (qP qF hb); have n1_ := qM (hbox); have n2_ := qM ((by rw [hg]; exact (qZ qF) : w.heap.size ≤ gb141)); have n3_ := qM ((by rw [hg]; exact (qZ qF) : w.heap.size ≤ gb141)); clear HB; have HB := n0_; have BK141 := n1_; have GW141 := n2_; have GE141 := n3_; clear n0_ n1_ n2_ n3_; clear hb hbox hg) | ((with_reducible refine gate_dst (N := 3) rfl ?_); (try (refine gate_guard (by rfl) ?_; dsimp only)); refine box_event ?hg (N := 3) ?hd (cs := #[.int .i64 a1_0, .int .i64 a1_1, .int .i64 a1_2, .int .i64 a1_3, .slice A1_4 l1_4.length c1_4, .string a1_5, .slice A1_6 l1_6.length c1_6]) (t := 26) ?hr ?_; (case hd => rfl); (case hg => rfl); (case hr => first | (go_simp; done) | (go_simp; rfl)); intro gb142 hg w5 hbox hb; have n0_ := qM (qb (g := gb141) qK hb); have n1_ := qM (qP qF hb); have n2_ := qM (hbox); have n3_ := qM ((by rw [hg]; exact (qZ qF) : w.heap.size ≤ gb142)); have n4_ := qM ((by rw [hg]; exact (qZ qF) : w.heap.size ≤ gb142)); have n5_ := qM ((by rw [hg]; exact Nat.ne_of_lt (ql (g := gb141) qK) : gb141 ≠ gb142)); have n6_ := qM ((by rw [hg]; exact Nat.ne_of_gt (ql (g := gb141) qK) : gb142 ≠ gb141)); clear BK141; clear HB; have BK141 := n0_; have HB := n1_; have BK142 := n2_; have GW142 := n3_; have GE142 := n4_; have NB141_142 := n5_; have NB142_141 := n6_; clear n0_ n1_ n2_ n3_ n4_ n5_ n6_; clear hb hbox hg))
 ((try simp only [Act.put, List.setIfInBounds_toArray, List.set_cons_zero, List.set_cons_succ])); (go_cut [25] (fun v25 wc => ∃ (kq : Nat) (x25_2 : Bool), v25 = .bool x25_2 ∧ Aside0 (cst_rightInner.j0 kq x25_2 l0_0 l0_1 l0_2 l0_3 l0_4 a1_0 a1_1 a1_2 a1_3 l1_4 a1_5 l1_6 = some r) ∧ Aside0 (kq ≤ k) ∧ Aside0 (wc.heap[gb141]? = some (.cells #[(.slice A0_0 l0_0.length c0_0), (.slice A0_1 l0_1.length c0_1), (.slice A0_2 l0_2.length c0_2), (.slice A0_3 l0_3.length c0_3), (.slice A0_4 l0_4.length c0_4)] 40 (0, 0))) ∧ Aside0 (wc.heap[gb142]? = some (.cells #[.int .i64 a1_0, .int .i64 a1_1, .int .i64 a1_2, .int .i64 a1_3, (.slice A1_4 l1_4.length c1_4), .string a1_5, (.slice A1_6 l1_6.length c1_6)] 26 (0, 0))) ∧ Aside0 (Below w.heap.size w wc)))
 case first =>
  (have H := HC3.out); clear HC3; (by_cases c6 : (wrap64 ((-1) - a1_0)) ≥ (l0_1.length : Int))
  ·rw [if_pos c6] at H
   (have c6b0 : decide ((l0_1.length : Int) ≤ (wrap64 ((-1) - a1_0))) = true := decide_eq_true c6); clear c6; ((first | rw [c6b0] | (simp only [i64_w, i32_w]; rw [c6b0]) | skip)); (have H' := qM H); clear H; (have hnb7 := NB142_141.out); (have hnc7 := NB141_142.out); (obtain ⟨hcz8_0, hcz8_1, hcz8_2, hcz8_3, hcz8_4, hcz8_5, hcz8_6, hfz8_0, hfz8_1, hfz8_2, hfz8_3, hfz8_4, hfz8_5, hfz8_6⟩ := bx7 BK142.out); (obtain ⟨hcz9_0, hcz9_1, hcz9_2, hcz9_3, hcz9_4, hfz9_0, hfz9_1, hfz9_2, hfz9_3, hfz9_4⟩ := bx5 BK141.out); go_wp2; go_meet
   case rel => exact ⟨_, (true), qV, H', ⟨by first | omega | exact Nat.le_refl _⟩, ⟨qK⟩, ⟨qK⟩, ⟨qF⟩⟩
  ·rw [if_neg c6] at H
   (have c6b0 : decide ((l0_1.length : Int) ≤ (wrap64 ((-1) - a1_0))) = false := decide_eq_false c6); clear c6; ((first | rw [c6b0] | (simp only [i64_w, i32_w]; rw [c6b0]) | skip)); (by_cases c10 : (l1_4.length : Int) > 0)
   ·rw [if_pos c10] at H
    (have c10b0 : decide (0 < (l1_4.length : Int)) = true := decide_eq_true c10); (have c10b1 : decide (0 < l1_4.length) = true := decide_eq_true (by omega)); clear c10; (have H' := qM H); clear H; (have hnb11 := NB142_141.out); (have hnc11 := NB141_142.out); (obtain ⟨hcz12_0, hcz12_1, hcz12_2, hcz12_3, hcz12_4, hcz12_5, hcz12_6, hfz12_0, hfz12_1, hfz12_2, hfz12_3, hfz12_4, hfz12_5, hfz12_6⟩ := bx7 BK142.out); (obtain ⟨hcz13_0, hcz13_1, hcz13_2, hcz13_3, hcz13_4, hfz13_0, hfz13_1, hfz13_2, hfz13_3, hfz13_4⟩ := bx5 BK141.out); go_wp2; go_meet
    case rel => exact ⟨_, (true), qV, H', ⟨by first | omega | exact Nat.le_refl _⟩, ⟨qK⟩, ⟨qK⟩, ⟨qF⟩⟩
   ·rw [if_neg c10] at H
    (have c10b0 : decide (0 < (l1_4.length : Int)) = false := decide_eq_false c10); (have c10b1 : decide (0 < l1_4.length) = false := decide_eq_false (by omega)); clear c10; (have H' := qM H); clear H; (have hnb14 := NB142_141.out); (have hnc14 := NB141_142.out); (obtain ⟨hcz15_0, hcz15_1, hcz15_2, hcz15_3, hcz15_4, hcz15_5, hcz15_6, hfz15_0, hfz15_1, hfz15_2, hfz15_3, hfz15_4, hfz15_5, hfz15_6⟩ := bx7 BK142.out); (obtain ⟨hcz16_0, hcz16_1, hcz16_2, hcz16_3, hcz16_4, hfz16_0, hfz16_1, hfz16_2, hfz16_3, hfz16_4⟩ := bx5 BK141.out); go_wp2; go_meet
    case rel => exact ⟨_, ((a1_5.toList != ([] : List UInt8))), (by first | rfl | (simp; done) | (simp [*]; done) | (simp; exact (by intro l; cases l <;> rfl : ∀ l : List UInt8, l.isEmpty = !(l != [])) _)), H', ⟨by first | omega | exact Nat.le_refl _⟩, ⟨qK⟩, ⟨qK⟩, ⟨qF⟩⟩
 case rest =>
  clear HC3; (try clear c1); (try clear p2); (try clear c4); (try clear c6); (try clear c6b0); (try clear p6); (try clear c7); (try clear c10); (try clear c10b0); (try clear c10b1); (try clear c11); (try clear c14); (try clear hcz12_0 hcz12_1 hcz12_2 hcz12_3 hcz12_4 hcz12_5 hcz12_6); (try clear hcz13_0 hcz13_1 hcz13_2 hcz13_3 hcz13_4); (try clear hcz15_0 hcz15_1 hcz15_2 hcz15_3 hcz15_4 hcz15_5 hcz15_6); (try clear hcz16_0 hcz16_1 hcz16_2 hcz16_3 hcz16_4); (try clear hcz8_0 hcz8_1 hcz8_2 hcz8_3 hcz8_4 hcz8_5 hcz8_6); (try clear hcz9_0 hcz9_1 hcz9_2 hcz9_3 hcz9_4); (try clear hfz12_0 hfz12_1 hfz12_2 hfz12_3 hfz12_4 hfz12_5 hfz12_6); (try clear hfz13_0 hfz13_1 hfz13_2 hfz13_3 hfz13_4); (try clear hfz15_0 hfz15_1 hfz15_2 hfz15_3 hfz15_4 hfz15_5 hfz15_6); (try clear hfz16_0 hfz16_1 hfz16_2 hfz16_3 hfz16_4); (try clear hfz8_0 hfz8_1 hfz8_2 hfz8_3 hfz8_4 hfz8_5 hfz8_6); (try clear hfz9_0 hfz9_1 hfz9_2 hfz9_3 hfz9_4); (obtain ⟨kq, x25_2, rfl, HA, HJ2, BK141, BK142, HB⟩ := hcut)
  cases kq with
  | zero => exact absurd HA.out (by simp [cst_rightInner.j0])
  | succ kj2 =>
   (have H := HA.out); clear HA; (simp only [cst_rightInner.j0] at H); (by_cases c17 : x25_2 = true)
   ·subst c17
    (have H1 : (some false) = some r := by rw [if_pos rfl] at H; exact H); clear H; (have H := H1); clear H1; (obtain rfl := Option.some.inj H); go_wp2; (go_ret); (exact ⟨qE, qF⟩)
   ·replace c17 := Bool.eq_false_iff.mpr c17
    subst c17; (have H1 : (if a1_3 = 2 then (some (a1_1 == (-1))) else (if a1_3 = 0 then (if a1_1 < 0 then (cst_rightInner.j1 kj2 true l0_0 l0_1 l0_2 l0_3 l0_4 a1_0 a1_1 a1_2 a1_3 l1_4 a1_5 l1_6) else (cst_rightInner.j1 kj2 (decide (a1_1 ≥ (l0_3.length : Int))) l0_0 l0_1 l0_2 l0_3 l0_4 a1_0 a1_1 a1_2 a1_3 l1_4 a1_5 l1_6)) else (cst_rightInner.j1 kj2 true l0_0 l0_1 l0_2 l0_3 l0_4 a1_0 a1_1 a1_2 a1_3 l1_4 a1_5 l1_6))) = some r := by rw [if_neg (show ¬ (false = true) by decide)] at H; exact H); clear H; (have H := H1); clear H1; (by_cases c18 : a1_3 = 2)
    ·rw [if_pos c18] at H
     (have c18b0 : (a1_3 == 2) = true := beq_iff_eq.mpr c18); (have c18b1 : (a1_3 != 2) = false := bne_eq_false_iff_eq.mpr c18); clear c18; (obtain rfl := Option.some.inj H); (have hnb19 := NB142_141.out); (have hnc19 := NB141_142.out); (obtain ⟨hcz20_0, hcz20_1, hcz20_2, hcz20_3, hcz20_4, hcz20_5, hcz20_6, hfz20_0, hfz20_1, hfz20_2, hfz20_3, hfz20_4, hfz20_5, hfz20_6⟩ := bx7 BK142.out); go_wp2; (go_ret); (exact ⟨qE, qF⟩)
    ·rw [if_neg c18] at H
     (have c18b0 : (a1_3 == 2) = false := beq_eq_false_iff_ne.mpr c18); (have c18b1 : (a1_3 != 2) = true := bne_iff_ne.mpr c18); (have HC21 := qM H); clear H; (have hnb22 := NB142_141.out); (have hnc22 := NB141_142.out); (obtain ⟨hcz23_0, hcz23_1, hcz23_2, hcz23_3, hcz23_4, hcz23_5, hcz23_6, hfz23_0, hfz23_1, hfz23_2, hfz23_3, hfz23_4, hfz23_5, hfz23_6⟩ := bx7 BK142.out); (go_upto_region 5 with (fail)); (go_cut [47] (fun v47 wc => ∃ (kq : Nat) (x47_20 : Bool), v47 = .bool x47_20 ∧ Aside0 (cst_rightInner.j1 kq x47_20 l0_0 l0_1 l0_2 l0_3 l0_4 a1_0 a1_1 a1_2 a1_3 l1_4 a1_5 l1_6 = some r) ∧ Aside0 (kq ≤ kj2) ∧ Aside0 (wc.heap[gb141]? = some (.cells #[(.slice A0_0 l0_0.length c0_0), (.slice A0_1 l0_1.length c0_1), (.slice A0_2 l0_2.length c0_2), (.slice A0_3 l0_3.length c0_3), (.slice A0_4 l0_4.length c0_4)] 40 (0, 0))) ∧ Aside0 (wc.heap[gb142]? = some (.cells #[.int .i64 a1_0, .int .i64 a1_1, .int .i64 a1_2, .int .i64 a1_3, (.slice A1_4 l1_4.length c1_4), .string a1_5, (.slice A1_6 l1_6.length c1_6)] 26 (0, 0))) ∧ Aside0 (Below w.heap.size w wc)))
     case first =>
      (have H := HC21.out); clear HC21; (by_cases c24 : a1_3 = 0)
      ·rw [if_pos c24] at H
       (have c24b0 : (a1_3 == 0) = true := beq_iff_eq.mpr c24); (have c24b1 : (a1_3 != 0) = false := bne_eq_false_iff_eq.mpr c24); clear c24; ((first | rw [c24b0] | (simp only [i64_w, i32_w]; rw [c24b0]) | skip)); (by_cases c25 : a1_1 < 0)
       ·rw [if_pos c25] at H
        (have c25b0 : decide (a1_1 < 0) = true := decide_eq_true c25); clear c25; (have H' := qM H); clear H; (have hnb26 := NB142_141.out); (have hnc26 := NB141_142.out); (obtain ⟨hcz27_0, hcz27_1, hcz27_2, hcz27_3, hcz27_4, hcz27_5, hcz27_6, hfz27_0, hfz27_1, hfz27_2, hfz27_3, hfz27_4, hfz27_5, hfz27_6⟩ := bx7 BK142.out); go_wp2; go_meet
        case rel => exact ⟨_, (true), qV, H', ⟨by have := HJ2.out; first | omega | exact Nat.le_refl _⟩, ⟨qK⟩, ⟨qK⟩, ⟨qF⟩⟩
       ·rw [if_neg c25] at H
        (have c25b0 : decide (a1_1 < 0) = false := decide_eq_false c25); clear c25; (have H' := qM H); clear H; (have hnb28 := NB142_141.out); (have hnc28 := NB141_142.out); (obtain ⟨hcz29_0, hcz29_1, hcz29_2, hcz29_3, hcz29_4, hcz29_5, hcz29_6, hfz29_0, hfz29_1, hfz29_2, hfz29_3, hfz29_4, hfz29_5, hfz29_6⟩ := bx7 BK142.out); (obtain ⟨hcz30_0, hcz30_1, hcz30_2, hcz30_3, hcz30_4, hfz30_0, hfz30_1, hfz30_2, hfz30_3, hfz30_4⟩ := bx5 BK141.out); go_wp2; go_meet
        case rel => exact ⟨_, (decide (a1_1 ≥ (l0_3.length : Int))), qV, H', ⟨by have := HJ2.out; first | omega | exact Nat.le_refl _⟩, ⟨qK⟩, ⟨qK⟩, ⟨qF⟩⟩
      ·rw [if_neg c24] at H
       (have c24b0 : (a1_3 == 0) = false := beq_eq_false_iff_ne.mpr c24); (have c24b1 : (a1_3 != 0) = true := bne_iff_ne.mpr c24); ((first | rw [c24b0] | (simp only [i64_w, i32_w]; rw [c24b0]) | skip)); (have H' := qM H); clear H; (have hnb31 := NB142_141.out); (have hnc31 := NB141_142.out); (obtain ⟨hcz32_0, hcz32_1, hcz32_2, hcz32_3, hcz32_4, hcz32_5, hcz32_6, hfz32_0, hfz32_1, hfz32_2, hfz32_3, hfz32_4, hfz32_5, hfz32_6⟩ := bx7 BK142.out); go_wp2; go_meet
       case rel => exact ⟨_, (true), qV, H', ⟨by have := HJ2.out; first | omega | exact Nat.le_refl _⟩, ⟨qK⟩, ⟨qK⟩, ⟨qF⟩⟩
     case rest =>
      clear HC21; (try clear c1); (try clear c2); (try clear p2); (try clear c3); (try clear c4); (try clear c6); (try clear c6b0); (try clear p6); (try clear c7); (try clear c10); (try clear c10b0); (try clear c10b1); (try clear c11); (try clear c14); (try clear c17); (try clear c18); (try clear c18b0); (try clear c18b1); (try clear c19); (try clear c22); (try clear c24); (try clear c24b0); (try clear c24b1); (try clear c25); (try clear c25b0); (try clear c26); (try clear c28); (try clear c31); (try clear hcz12_0 hcz12_1 hcz12_2 hcz12_3 hcz12_4 hcz12_5 hcz12_6); (try clear hcz13_0 hcz13_1 hcz13_2 hcz13_3 hcz13_4); (try clear hcz15_0 hcz15_1 hcz15_2 hcz15_3 hcz15_4 hcz15_5 hcz15_6); (try clear hcz16_0 hcz16_1 hcz16_2 hcz16_3 hcz16_4); (try clear hcz20_0 hcz20_1 hcz20_2 hcz20_3 hcz20_4 hcz20_5 hcz20_6); (try clear hcz23_0 hcz23_1 hcz23_2 hcz23_3 hcz23_4 hcz23_5 hcz23_6); (try clear hcz27_0 hcz27_1 hcz27_2 hcz27_3 hcz27_4 hcz27_5 hcz27_6); (try clear hcz29_0 hcz29_1 hcz29_2 hcz29_3 hcz29_4 hcz29_5 hcz29_6); (try clear hcz30_0 hcz30_1 hcz30_2 hcz30_3 hcz30_4); (try clear hcz32_0 hcz32_1 hcz32_2 hcz32_3 hcz32_4 hcz32_5 hcz32_6); (try clear hcz8_0 hcz8_1 hcz8_2 hcz8_3 hcz8_4 hcz8_5 hcz8_6); (try clear hcz9_0 hcz9_1 hcz9_2 hcz9_3 hcz9_4); (try clear hfz12_0 hfz12_1 hfz12_2 hfz12_3 hfz12_4 hfz12_5 hfz12_6); (try clear hfz13_0 hfz13_1 hfz13_2 hfz13_3 hfz13_4); (try clear hfz15_0 hfz15_1 hfz15_2 hfz15_3 hfz15_4 hfz15_5 hfz15_6); (try clear hfz16_0 hfz16_1 hfz16_2 hfz16_3 hfz16_4); (try clear hfz20_0 hfz20_1 hfz20_2 hfz20_3 hfz20_4 hfz20_5 hfz20_6); (try clear hfz23_0 hfz23_1 hfz23_2 hfz23_3 hfz23_4 hfz23_5 hfz23_6); (try clear hfz27_0 hfz27_1 hfz27_2 hfz27_3 hfz27_4 hfz27_5 hfz27_6); (try clear hfz29_0 hfz29_1 hfz29_2 hfz29_3 hfz29_4 hfz29_5 hfz29_6); (try clear hfz30_0 hfz30_1 hfz30_2 hfz30_3 hfz30_4); (try clear hfz32_0 hfz32_1 hfz32_2 hfz32_3 hfz32_4 hfz32_5 hfz32_6); (try clear hfz8_0 hfz8_1 hfz8_2 hfz8_3 hfz8_4 hfz8_5 hfz8_6); (try clear hfz9_0 hfz9_1 hfz9_2 hfz9_3 hfz9_4); (try clear p2); (try clear p6); (obtain ⟨kq, x47_20, rfl, HA, HJ20, BK141, BK142, HB⟩ := hcut)
      cases kq with
      | zero => exact absurd HA.out (by simp [cst_rightInner.j1])
      | succ kj20 =>
       (have H := HA.out); clear HA; (simp only [cst_rightInner.j1] at H); (by_cases c33 : x47_20 = true)
       ·subst c33
        (have H1 : (some false) = some r := by rw [if_pos rfl] at H; exact H); clear H; (have H := H1); clear H1; (obtain rfl := Option.some.inj H); go_wp2; (go_ret); (exact ⟨qE, qF⟩)
       ·replace c33 := Bool.eq_false_iff.mpr c33
        subst c33; (have H1 : (if 0 ≤ a1_1 then (if a1_1 < (l0_3.length : Int) then (if ((rd_T58 l0_3 a1_1).f0) = (wrap64 ((-1) - a1_0)) then (cst_rightInner.j2 kj20 ((((rd_T58 l0_3 a1_1).f1).length : Int) != (l1_6.length : Int)) a1_0 a1_1 a1_2 a1_3 l1_4 a1_5 l1_6 ((rd_T58 l0_3 a1_1).f0) ((rd_T58 l0_3 a1_1).f1) ((rd_T58 l0_3 a1_1).f2) ((rd_T58 l0_3 a1_1).f3) ((rd_T58 l0_3 a1_1).f4)) else (cst_rightInner.j2 kj20 true a1_0 a1_1 a1_2 a1_3 l1_4 a1_5 l1_6 ((rd_T58 l0_3 a1_1).f0) ((rd_T58 l0_3 a1_1).f1) ((rd_T58 l0_3 a1_1).f2) ((rd_T58 l0_3 a1_1).f3) ((rd_T58 l0_3 a1_1).f4))) else (none)) else (none)) = some r := by rw [if_neg (show ¬ (false = true) by decide)] at H; exact H); clear H; (have H := H1); clear H1; (by_cases c34 : 0 ≤ a1_1)
        ·rw [if_pos c34] at H
         (have c34b0 : decide (0 ≤ a1_1) = true := decide_eq_true c34); clear c34; (by_cases c35 : a1_1 < (l0_3.length : Int))
         ·rw [if_pos c35] at H
          (have c35b0 : decide (a1_1 < (l0_3.length : Int)) = true := decide_eq_true c35); clear c35; (have HC36 := qM H); clear H; (have hnb37 := NB141_142.out); (have hnc37 := NB142_141.out); (obtain ⟨hcz38_0, hcz38_1, hcz38_2, hcz38_3, hcz38_4, hfz38_0, hfz38_1, hfz38_2, hfz38_3, hfz38_4⟩ := bx5 BK141.out); (obtain ⟨hcz39_0, hcz39_1, hcz39_2, hcz39_3, hcz39_4, hcz39_5, hcz39_6, hfz39_0, hfz39_1, hfz39_2, hfz39_3, hfz39_4, hfz39_5, hfz39_6⟩ := bx7 BK142.out); (have p143 : 0 ≤ (a1_1 : Int) := qo qX); (have q143 : a1_1 < (l0_3.length : Int) := qo qX); (obtain ⟨ad143, A143_1, c143_1, A143_2, c143_2, e143, hx143_0, hx143_1, hx143_2, hx143_3, hx143_4, hl143_1, hi143_1, hl143_2, hi143_2⟩ := at_T58 HR0_3.out a1_1 p143 q143)
          cases e143
          (replace hx143_0 := (HB.out.cell (qB w _ hx143_0)).trans hx143_0); (replace hx143_1 := (HB.out.cell (qB w _ hx143_1)).trans hx143_1); (replace hx143_2 := (HB.out.cell (qB w _ hx143_2)).trans hx143_2); (replace hx143_3 := (HB.out.cell (qB w _ hx143_3)).trans hx143_3); (replace hx143_4 := (HB.out.cell (qB w _ hx143_4)).trans hx143_4); (have HR143_1 := qM hi143_1); (have HC143_1 := qM hl143_1); clear hi143_1 hl143_1; (have HR143_2 := qM hi143_2); (have HC143_2 := qM hl143_2); clear hi143_2 hl143_2; (replace p143 := eq_true p143); (replace q143 := eq_true q143)
          go_upto_region 8 with (first | ((with_reducible refine gate_dst (N := 5) rfl ?_); (try (refine gate_guard (by rfl) ?_; dsimp only)); refine box_event ?hg (N := 5) ?hd (cs := #[.int .i64 0, .slice none 0 0, .slice none 0 0, .string (⟨#[]⟩ : ByteArray), .int .i64 0]) (t := 58) ?hr ?_; (case hd => rfl); (case hg => rfl); (case hr => first | (go_simp; done) | (go_simp; rfl)); intro gb144 hg w40 hbox hb; have n0_ := qM (qb (g := gb141) qK hb); have n1_ := qM (qb (g := gb142) qK hb); have n2_ := qM (qP qF hb); have n3_ := qM (hbox); have n4_ := qM ((by rw [hg]; exact (qZ qF) : w.heap.size ≤ gb144)); have n5_ := qM ((by rw [hg]; exact (qZ qF) : w.heap.size ≤ gb144)); have n6_ := qM ((by rw [hg]; exact Nat.ne_of_lt (ql (g := gb141) qK) : gb141 ≠ gb144)); have n7_ := qM ((by rw [hg]; exact Nat.ne_of_gt (ql (g := gb141) qK) : gb144 ≠ gb141)); have n8_ := qM ((by rw [hg]; exact Nat.ne_of_lt (ql (g := gb142) qK) : gb142 ≠ gb144)); have n9_ := qM ((by rw [hg]; exact Nat.ne_of_gt (ql (g := gb142) qK) : gb144 ≠ gb142)); clear BK141; clear BK142; clear HB; have BK141 := n0_; have BK142 := n1_; have HB := n2_; have BK144 := n3_; have GW144 := n4_; have GE144 := n5_; have NB141_144 := n6_; have NB144_141 := n7_; have NB142_144 := n8_; have NB144_142 := n9_; clear n0_ n1_ n2_ n3_ n4_ n5_ n6_ n7_ n8_ n9_; clear hb hbox hg; have hnb41 := NB144_141.out; have hnc41 := NB141_144.out; have hnb42 := NB144_142.out; have hnc42 := NB142_144.out; obtain ⟨hcz43_0, hcz43_1, hcz43_2, hcz43_3, hcz43_4, hfz43_0, hfz43_1, hfz43_2, hfz43_3, hfz43_4⟩ := bx5 BK144.out))
          (try simp only [Act.put, List.setIfInBounds_toArray, List.set_cons_zero, List.set_cons_succ])
          go_cut [68] (fun v68 wc => ∃ (kq : Nat) (x68_35 : Bool), v68 = .bool x68_35 ∧ Aside0 (cst_rightInner.j2 kq x68_35 a1_0 a1_1 a1_2 a1_3 l1_4 a1_5 l1_6 ((rd_T58 l0_3 a1_1).f0) ((rd_T58 l0_3 a1_1).f1) ((rd_T58 l0_3 a1_1).f2) ((rd_T58 l0_3 a1_1).f3) ((rd_T58 l0_3 a1_1).f4) = some r) ∧ Aside0 (kq ≤ kj20) ∧ Aside0 (wc.heap[gb141]? = some (.cells #[(.slice A0_0 l0_0.length c0_0), (.slice A0_1 l0_1.length c0_1), (.slice A0_2 l0_2.length c0_2), (.slice (some ad143) l0_3.length c0_3), (.slice A0_4 l0_4.length c0_4)] 40 (0, 0))) ∧ Aside0 (wc.heap[gb142]? = some (.cells #[.int .i64 a1_0, .int .i64 a1_1, .int .i64 a1_2, .int .i64 a1_3, (.slice A1_4 l1_4.length c1_4), .string a1_5, (.slice A1_6 l1_6.length c1_6)] 26 (0, 0))) ∧ Aside0 (wc.heap[gb144]? = some (.cells #[.int .i64 ((rd_T58 l0_3 a1_1).f0), (.slice A143_1 ((rd_T58 l0_3 a1_1).f1).length c143_1), (.slice A143_2 ((rd_T58 l0_3 a1_1).f2).length c143_2), .string ((rd_T58 l0_3 a1_1).f3), .int .i64 ((rd_T58 l0_3 a1_1).f4)] 58 (0, 0))) ∧ Aside0 (Below w.heap.size w wc))
          case first =>
           (have H := HC36.out); clear HC36; (by_cases c44 : ((rd_T58 l0_3 a1_1).f0) = (wrap64 ((-1) - a1_0)))
           ·rw [if_pos c44] at H
            (have c44b0 : (((rd_T58 l0_3 a1_1).f0) == (wrap64 ((-1) - a1_0))) = true := beq_iff_eq.mpr c44); (have c44b1 : (((rd_T58 l0_3 a1_1).f0) != (wrap64 ((-1) - a1_0))) = false := bne_eq_false_iff_eq.mpr c44); clear c44; ((first | rw [c44b0] | (simp only [i64_w, i32_w]; rw [c44b0]) | skip)); (have H' := qM H); clear H; (have hnb45 := NB144_141.out); (have hnc45 := NB141_144.out); (have hnb46 := NB144_142.out); (have hnc46 := NB142_144.out); (obtain ⟨hcz47_0, hcz47_1, hcz47_2, hcz47_3, hcz47_4, hfz47_0, hfz47_1, hfz47_2, hfz47_3, hfz47_4⟩ := bx5 BK144.out); (have hnb48 := NB142_141.out); (have hnc48 := NB141_142.out); (obtain ⟨hcz49_0, hcz49_1, hcz49_2, hcz49_3, hcz49_4, hcz49_5, hcz49_6, hfz49_0, hfz49_1, hfz49_2, hfz49_3, hfz49_4, hfz49_5, hfz49_6⟩ := bx7 BK142.out); go_wp2; go_meet
            case rel => exact ⟨_, (((((rd_T58 l0_3 a1_1).f1).length : Int) != (l1_6.length : Int))), qV, H', ⟨by have := HJ2.out; have := HJ20.out; first | omega | exact Nat.le_refl _⟩, ⟨by (with_reducible repeat (first | refine qn ?_ _ | refine qd ?_ | refine qa ?_ _)); refine qf ?_ NB141_144.out _; (with_reducible repeat (first | refine qn ?_ _ | refine qd ?_ | refine qa ?_ _)); refine qf ?_ NB141_144.out _; (with_reducible repeat (first | refine qn ?_ _ | refine qd ?_ | refine qa ?_ _)); refine qf ?_ NB141_144.out _; (with_reducible repeat (first | refine qn ?_ _ | refine qd ?_ | refine qa ?_ _)); refine qf ?_ NB141_144.out _; (with_reducible repeat (first | refine qn ?_ _ | refine qd ?_ | refine qa ?_ _)); refine qf ?_ NB141_144.out _; (with_reducible repeat (first | refine qn ?_ _ | refine qd ?_ | refine qa ?_ _)); exact BK141.out⟩, ⟨by (with_reducible repeat (first | refine qn ?_ _ | refine qd ?_ | refine qa ?_ _)); refine qf ?_ NB142_144.out _; (with_reducible repeat (first | refine qn ?_ _ | refine qd ?_ | refine qa ?_ _)); refine qf ?_ NB142_144.out _; (with_reducible repeat (first | refine qn ?_ _ | refine qd ?_ | refine qa ?_ _)); refine qf ?_ NB142_144.out _; (with_reducible repeat (first | refine qn ?_ _ | refine qd ?_ | refine qa ?_ _)); refine qf ?_ NB142_144.out _; (with_reducible repeat (first | refine qn ?_ _ | refine qd ?_ | refine qa ?_ _)); refine qf ?_ NB142_144.out _; (with_reducible repeat (first | refine qn ?_ _ | refine qd ?_ | refine qa ?_ _)); exact BK142.out⟩, ⟨by (with_reducible repeat (first | refine qn ?_ _ | refine qd ?_ | refine qa ?_ _)); refine blk_put (cs := #[.int .i64 ((rd_T58 l0_3 a1_1).f0), .slice A143_1 ((rd_T58 l0_3 a1_1).f1).length c143_1, .slice A143_2 ((rd_T58 l0_3 a1_1).f2).length c143_2, .string ((rd_T58 l0_3 a1_1).f3), .int .i64 0]) ?_ 4 _ rfl; (with_reducible repeat (first | refine qn ?_ _ | refine qd ?_ | refine qa ?_ _)); refine blk_put (cs := #[.int .i64 ((rd_T58 l0_3 a1_1).f0), .slice A143_1 ((rd_T58 l0_3 a1_1).f1).length c143_1, .slice A143_2 ((rd_T58 l0_3 a1_1).f2).length c143_2, .string (⟨#[]⟩ : ByteArray), .int .i64 0]) ?_ 3 _ rfl; (with_reducible repeat (first | refine qn ?_ _ | refine qd ?_ | refine qa ?_ _)); refine blk_put (cs := #[.int .i64 ((rd_T58 l0_3 a1_1).f0), .slice A143_1 ((rd_T58 l0_3 a1_1).f1).length c143_1, .slice none 0 0, .string (⟨#[]⟩ : ByteArray), .int .i64 0]) ?_ 2 _ rfl; (with_reducible repeat (first | refine qn ?_ _ | refine qd ?_ | refine qa ?_ _)); refine blk_put (cs := #[.int .i64 ((rd_T58 l0_3 a1_1).f0), .slice none 0 0, .slice none 0 0, .string (⟨#[]⟩ : ByteArray), .int .i64 0]) ?_ 1 _ rfl; (with_reducible repeat (first | refine qn ?_ _ | refine qd ?_ | refine qa ?_ _)); refine blk_put (cs := #[.int .i64 0, .slice none 0 0, .slice none 0 0, .string (⟨#[]⟩ : ByteArray), .int .i64 0]) ?_ 0 _ rfl; (with_reducible repeat (first | refine qn ?_ _ | refine qd ?_ | refine qa ?_ _)); exact BK144.out⟩, ⟨qF⟩⟩
           ·rw [if_neg c44] at H
            (have c44b0 : (((rd_T58 l0_3 a1_1).f0) == (wrap64 ((-1) - a1_0))) = false := beq_eq_false_iff_ne.mpr c44); (have c44b1 : (((rd_T58 l0_3 a1_1).f0) != (wrap64 ((-1) - a1_0))) = true := bne_iff_ne.mpr c44); ((first | rw [c44b0] | (simp only [i64_w, i32_w]; rw [c44b0]) | skip)); (have H' := qM H); clear H; (have hnb50 := NB144_141.out); (have hnc50 := NB141_144.out); (have hnb51 := NB144_142.out); (have hnc51 := NB142_144.out); (obtain ⟨hcz52_0, hcz52_1, hcz52_2, hcz52_3, hcz52_4, hfz52_0, hfz52_1, hfz52_2, hfz52_3, hfz52_4⟩ := bx5 BK144.out); (have hnb53 := NB142_141.out); (have hnc53 := NB141_142.out); (obtain ⟨hcz54_0, hcz54_1, hcz54_2, hcz54_3, hcz54_4, hcz54_5, hcz54_6, hfz54_0, hfz54_1, hfz54_2, hfz54_3, hfz54_4, hfz54_5, hfz54_6⟩ := bx7 BK142.out); go_wp2; go_meet
            case rel => exact ⟨_, (true), qV, H', ⟨by have := HJ2.out; have := HJ20.out; first | omega | exact Nat.le_refl _⟩, ⟨by (with_reducible repeat (first | refine qn ?_ _ | refine qd ?_ | refine qa ?_ _)); refine qf ?_ NB141_144.out _; (with_reducible repeat (first | refine qn ?_ _ | refine qd ?_ | refine qa ?_ _)); refine qf ?_ NB141_144.out _; (with_reducible repeat (first | refine qn ?_ _ | refine qd ?_ | refine qa ?_ _)); refine qf ?_ NB141_144.out _; (with_reducible repeat (first | refine qn ?_ _ | refine qd ?_ | refine qa ?_ _)); refine qf ?_ NB141_144.out _; (with_reducible repeat (first | refine qn ?_ _ | refine qd ?_ | refine qa ?_ _)); refine qf ?_ NB141_144.out _; (with_reducible repeat (first | refine qn ?_ _ | refine qd ?_ | refine qa ?_ _)); exact BK141.out⟩, ⟨by (with_reducible repeat (first | refine qn ?_ _ | refine qd ?_ | refine qa ?_ _)); refine qf ?_ NB142_144.out _; (with_reducible repeat (first | refine qn ?_ _ | refine qd ?_ | refine qa ?_ _)); refine qf ?_ NB142_144.out _; (with_reducible repeat (first | refine qn ?_ _ | refine qd ?_ | refine qa ?_ _)); refine qf ?_ NB142_144.out _; (with_reducible repeat (first | refine qn ?_ _ | refine qd ?_ | refine qa ?_ _)); refine qf ?_ NB142_144.out _; (with_reducible repeat (first | refine qn ?_ _ | refine qd ?_ | refine qa ?_ _)); refine qf ?_ NB142_144.out _; (with_reducible repeat (first | refine qn ?_ _ | refine qd ?_ | refine qa ?_ _)); exact BK142.out⟩, ⟨by (with_reducible repeat (first | refine qn ?_ _ | refine qd ?_ | refine qa ?_ _)); refine blk_put (cs := #[.int .i64 ((rd_T58 l0_3 a1_1).f0), .slice A143_1 ((rd_T58 l0_3 a1_1).f1).length c143_1, .slice A143_2 ((rd_T58 l0_3 a1_1).f2).length c143_2, .string ((rd_T58 l0_3 a1_1).f3), .int .i64 0]) ?_ 4 _ rfl; (with_reducible repeat (first | refine qn ?_ _ | refine qd ?_ | refine qa ?_ _)); refine blk_put (cs := #[.int .i64 ((rd_T58 l0_3 a1_1).f0), .slice A143_1 ((rd_T58 l0_3 a1_1).f1).length c143_1, .slice A143_2 ((rd_T58 l0_3 a1_1).f2).length c143_2, .string (⟨#[]⟩ : ByteArray), .int .i64 0]) ?_ 3 _ rfl; (with_reducible repeat (first | refine qn ?_ _ | refine qd ?_ | refine qa ?_ _)); refine blk_put (cs := #[.int .i64 ((rd_T58 l0_3 a1_1).f0), .slice A143_1 ((rd_T58 l0_3 a1_1).f1).length c143_1, .slice none 0 0, .string (⟨#[]⟩ : ByteArray), .int .i64 0]) ?_ 2 _ rfl; (with_reducible repeat (first | refine qn ?_ _ | refine qd ?_ | refine qa ?_ _)); refine blk_put (cs := #[.int .i64 ((rd_T58 l0_3 a1_1).f0), .slice none 0 0, .slice none 0 0, .string (⟨#[]⟩ : ByteArray), .int .i64 0]) ?_ 1 _ rfl; (with_reducible repeat (first | refine qn ?_ _ | refine qd ?_ | refine qa ?_ _)); refine blk_put (cs := #[.int .i64 0, .slice none 0 0, .slice none 0 0, .string (⟨#[]⟩ : ByteArray), .int .i64 0]) ?_ 0 _ rfl; (with_reducible repeat (first | refine qn ?_ _ | refine qd ?_ | refine qa ?_ _)); exact BK144.out⟩, ⟨qF⟩⟩
          case rest =>
           clear HC36; (try clear c1); (try clear p1); (try clear q1); (try clear hx1); (try clear c2); (try clear p2); (try clear c3); (try clear c4); (try clear c5); (try clear c6); (try clear c6b0); (try clear p6); (try clear c7); (try clear c10); (try clear c10b0); (try clear c10b1); (try clear c11); (try clear c14); (try clear p14); (try clear q14); (try clear hx14); (try clear c17); (try clear c18); (try clear c18b0); (try clear c18b1); (try clear c19); (try clear c22); (try clear c24); (try clear c24b0); (try clear c24b1); (try clear c25); (try clear c25b0); (try clear c26); (try clear c28); (try clear c31); (try clear c33); (try clear c34); (try clear c34b0); (try clear c35); (try clear c35b0); (try clear c37); (try clear c41); (try clear c42); (try clear c44); (try clear c44b0); (try clear c44b1); (try clear c45); (try clear c46); (try clear c48); (try clear c50); (try clear c51); (try clear c53); (try clear hcz12_0 hcz12_1 hcz12_2 hcz12_3 hcz12_4 hcz12_5 hcz12_6); (try clear hcz13_0 hcz13_1 hcz13_2 hcz13_3 hcz13_4); (try clear hcz15_0 hcz15_1 hcz15_2 hcz15_3 hcz15_4 hcz15_5 hcz15_6); (try clear hcz16_0 hcz16_1 hcz16_2 hcz16_3 hcz16_4); (try clear hcz20_0 hcz20_1 hcz20_2 hcz20_3 hcz20_4 hcz20_5 hcz20_6); (try clear hcz23_0 hcz23_1 hcz23_2 hcz23_3 hcz23_4 hcz23_5 hcz23_6); (try clear hcz27_0 hcz27_1 hcz27_2 hcz27_3 hcz27_4 hcz27_5 hcz27_6); (try clear hcz29_0 hcz29_1 hcz29_2 hcz29_3 hcz29_4 hcz29_5 hcz29_6); (try clear hcz30_0 hcz30_1 hcz30_2 hcz30_3 hcz30_4); (try clear hcz32_0 hcz32_1 hcz32_2 hcz32_3 hcz32_4 hcz32_5 hcz32_6); (try clear hcz38_0 hcz38_1 hcz38_2 hcz38_3 hcz38_4); (try clear hcz39_0 hcz39_1 hcz39_2 hcz39_3 hcz39_4 hcz39_5 hcz39_6); (try clear hcz43_0 hcz43_1 hcz43_2 hcz43_3 hcz43_4); (try clear hcz47_0 hcz47_1 hcz47_2 hcz47_3 hcz47_4); (try clear hcz49_0 hcz49_1 hcz49_2 hcz49_3 hcz49_4 hcz49_5 hcz49_6); (try clear hcz52_0 hcz52_1 hcz52_2 hcz52_3 hcz52_4); (try clear hcz54_0 hcz54_1 hcz54_2 hcz54_3 hcz54_4 hcz54_5 hcz54_6); (try clear hcz8_0 hcz8_1 hcz8_2 hcz8_3 hcz8_4 hcz8_5 hcz8_6); (try clear hcz9_0 hcz9_1 hcz9_2 hcz9_3 hcz9_4); (try clear hfz12_0 hfz12_1 hfz12_2 hfz12_3 hfz12_4 hfz12_5 hfz12_6); (try clear hfz13_0 hfz13_1 hfz13_2 hfz13_3 hfz13_4); (try clear hfz15_0 hfz15_1 hfz15_2 hfz15_3 hfz15_4 hfz15_5 hfz15_6); (try clear hfz16_0 hfz16_1 hfz16_2 hfz16_3 hfz16_4); (try clear hfz20_0 hfz20_1 hfz20_2 hfz20_3 hfz20_4 hfz20_5 hfz20_6); (try clear hfz23_0 hfz23_1 hfz23_2 hfz23_3 hfz23_4 hfz23_5 hfz23_6); (try clear hfz27_0 hfz27_1 hfz27_2 hfz27_3 hfz27_4 hfz27_5 hfz27_6); (try clear hfz29_0 hfz29_1 hfz29_2 hfz29_3 hfz29_4 hfz29_5 hfz29_6); (try clear hfz30_0 hfz30_1 hfz30_2 hfz30_3 hfz30_4); (try clear hfz32_0 hfz32_1 hfz32_2 hfz32_3 hfz32_4 hfz32_5 hfz32_6)
           (try clear hfz38_0 hfz38_1 hfz38_2 hfz38_3 hfz38_4); (try clear hfz39_0 hfz39_1 hfz39_2 hfz39_3 hfz39_4 hfz39_5 hfz39_6); (try clear hfz43_0 hfz43_1 hfz43_2 hfz43_3 hfz43_4); (try clear hfz47_0 hfz47_1 hfz47_2 hfz47_3 hfz47_4); (try clear hfz49_0 hfz49_1 hfz49_2 hfz49_3 hfz49_4 hfz49_5 hfz49_6); (try clear hfz52_0 hfz52_1 hfz52_2 hfz52_3 hfz52_4); (try clear hfz54_0 hfz54_1 hfz54_2 hfz54_3 hfz54_4 hfz54_5 hfz54_6); (try clear hfz8_0 hfz8_1 hfz8_2 hfz8_3 hfz8_4 hfz8_5 hfz8_6); (try clear hfz9_0 hfz9_1 hfz9_2 hfz9_3 hfz9_4); (try clear hx143_0 hx143_1 hx143_2 hx143_3 hx143_4); (try clear p143); (try clear p2); (try clear p6); (try clear q143); (obtain ⟨kq, x68_35, rfl, HA, HJ35, BK141, BK142, BK144, HB⟩ := hcut)
           cases kq with
           | zero => exact absurd HA.out (by simp [cst_rightInner.j2])
           | succ kj35 =>
            (have H := HA.out); clear HA; (simp only [cst_rightInner.j2] at H); (by_cases c55 : x68_35 = true)
            ·subst c55
             (have H1 : (some false) = some r := by rw [if_pos rfl] at H; exact H); clear H; (have H := H1); clear H1; (obtain rfl := Option.some.inj H); go_wp2; (go_ret); (exact ⟨qE, qF⟩)
            ·replace c55 := Bool.eq_false_iff.mpr c55
             subst c55; (have H1 : (cst_rightInner.l0 kj35 ((rd_T58 l0_3 a1_1).f1) (((rd_T58 l0_3 a1_1).f1).length : Int) 0 a1_0 a1_1 a1_2 a1_3 l1_4 a1_5 l1_6) = some r := by rw [if_neg (show ¬ (false = true) by decide)] at H; exact H); clear H; (have H := H1); clear H1; (have H' := qM H); clear H; (have hnb56 := NB144_141.out); (have hnc56 := NB141_144.out); (have hnb57 := NB144_142.out); (have hnc57 := NB142_144.out); (obtain ⟨hcz58_0, hcz58_1, hcz58_2, hcz58_3, hcz58_4, hfz58_0, hfz58_1, hfz58_2, hfz58_3, hfz58_4⟩ := bx5 BK144.out); go_wp2
             go_loopg [72] kj35 (fun kq v72 w' => ∃ (x72_4 : Int), v72 = .int .i64 x72_4 ∧ Aside0 (cst_rightInner.l0 kq ((rd_T58 l0_3 a1_1).f1) (((rd_T58 l0_3 a1_1).f1).length : Int) x72_4 a1_0 a1_1 a1_2 a1_3 l1_4 a1_5 l1_6 = some r) ∧ Aside0 (kq ≤ kj35) ∧ Aside0 (w'.heap[gb141]? = some (.cells #[(.slice A0_0 l0_0.length c0_0), (.slice A0_1 l0_1.length c0_1), (.slice A0_2 l0_2.length c0_2), (.slice (some ad143) l0_3.length c0_3), (.slice A0_4 l0_4.length c0_4)] 40 (0, 0))) ∧ Aside0 (w'.heap[gb142]? = some (.cells #[.int .i64 a1_0, .int .i64 a1_1, .int .i64 a1_2, .int .i64 a1_3, (.slice A1_4 l1_4.length c1_4), .string a1_5, (.slice A1_6 l1_6.length c1_6)] 26 (0, 0))) ∧ Aside0 (w'.heap[gb144]? = some (.cells #[.int .i64 ((rd_T58 l0_3 a1_1).f0), (.slice A143_1 ((rd_T58 l0_3 a1_1).f1).length c143_1), (.slice A143_2 ((rd_T58 l0_3 a1_1).f2).length c143_2), .string ((rd_T58 l0_3 a1_1).f3), .int .i64 ((rd_T58 l0_3 a1_1).f4)] 58 (0, 0))) ∧ Aside0 (Below w.heap.size w w'))
             case atStart => exact ⟨(0), qV, H', ⟨Nat.le_refl _⟩, ⟨qK⟩, ⟨qK⟩, ⟨qK⟩, ⟨qF⟩⟩
             case round =>
              (clear H'); (try clear c1); (try clear p1); (try clear q1); (try clear hx1); (try clear c2); (try clear p2); (try clear c3); (try clear c4); (try clear c5); (try clear c6); (try clear c6b0); (try clear p6); (try clear c7); (try clear c10); (try clear c10b0); (try clear c10b1); (try clear c11); (try clear c14); (try clear p14); (try clear q14); (try clear hx14); (try clear c17); (try clear c18); (try clear c18b0); (try clear c18b1); (try clear c19); (try clear c22); (try clear c24); (try clear c24b0); (try clear c24b1); (try clear c25); (try clear c25b0); (try clear c26); (try clear c28); (try clear c31); (try clear c33); (try clear c34); (try clear c34b0); (try clear c35); (try clear c35b0); (try clear c37); (try clear c41); (try clear c42); (try clear c44); (try clear c44b0); (try clear c44b1); (try clear c45); (try clear c46); (try clear c48); (try clear c50); (try clear c51); (try clear c53); (try clear c55); (try clear c56); (try clear c57); (try clear hcz12_0 hcz12_1 hcz12_2 hcz12_3 hcz12_4 hcz12_5 hcz12_6); (try clear hcz13_0 hcz13_1 hcz13_2 hcz13_3 hcz13_4); (try clear hcz15_0 hcz15_1 hcz15_2 hcz15_3 hcz15_4 hcz15_5 hcz15_6); (try clear hcz16_0 hcz16_1 hcz16_2 hcz16_3 hcz16_4); (try clear hcz20_0 hcz20_1 hcz20_2 hcz20_3 hcz20_4 hcz20_5 hcz20_6); (try clear hcz23_0 hcz23_1 hcz23_2 hcz23_3 hcz23_4 hcz23_5 hcz23_6); (try clear hcz27_0 hcz27_1 hcz27_2 hcz27_3 hcz27_4 hcz27_5 hcz27_6); (try clear hcz29_0 hcz29_1 hcz29_2 hcz29_3 hcz29_4 hcz29_5 hcz29_6); (try clear hcz30_0 hcz30_1 hcz30_2 hcz30_3 hcz30_4); (try clear hcz32_0 hcz32_1 hcz32_2 hcz32_3 hcz32_4 hcz32_5 hcz32_6); (try clear hcz38_0 hcz38_1 hcz38_2 hcz38_3 hcz38_4); (try clear hcz39_0 hcz39_1 hcz39_2 hcz39_3 hcz39_4 hcz39_5 hcz39_6); (try clear hcz43_0 hcz43_1 hcz43_2 hcz43_3 hcz43_4); (try clear hcz47_0 hcz47_1 hcz47_2 hcz47_3 hcz47_4); (try clear hcz49_0 hcz49_1 hcz49_2 hcz49_3 hcz49_4 hcz49_5 hcz49_6); (try clear hcz52_0 hcz52_1 hcz52_2 hcz52_3 hcz52_4); (try clear hcz54_0 hcz54_1 hcz54_2 hcz54_3 hcz54_4 hcz54_5 hcz54_6); (try clear hcz58_0 hcz58_1 hcz58_2 hcz58_3 hcz58_4); (try clear hcz8_0 hcz8_1 hcz8_2 hcz8_3 hcz8_4 hcz8_5 hcz8_6); (try clear hcz9_0 hcz9_1 hcz9_2 hcz9_3 hcz9_4); (try clear hfz12_0 hfz12_1 hfz12_2 hfz12_3 hfz12_4 hfz12_5 hfz12_6); (try clear hfz13_0 hfz13_1 hfz13_2 hfz13_3 hfz13_4); (try clear hfz15_0 hfz15_1 hfz15_2 hfz15_3 hfz15_4 hfz15_5 hfz15_6); (try clear hfz16_0 hfz16_1 hfz16_2 hfz16_3 hfz16_4); (try clear hfz20_0 hfz20_1 hfz20_2 hfz20_3 hfz20_4 hfz20_5 hfz20_6); (try clear hfz23_0 hfz23_1 hfz23_2 hfz23_3 hfz23_4 hfz23_5 hfz23_6); (try clear hfz27_0 hfz27_1 hfz27_2 hfz27_3 hfz27_4 hfz27_5 hfz27_6); (try clear hfz29_0 hfz29_1 hfz29_2 hfz29_3 hfz29_4 hfz29_5 hfz29_6)
              (try clear hfz30_0 hfz30_1 hfz30_2 hfz30_3 hfz30_4); (try clear hfz32_0 hfz32_1 hfz32_2 hfz32_3 hfz32_4 hfz32_5 hfz32_6); (try clear hfz38_0 hfz38_1 hfz38_2 hfz38_3 hfz38_4); (try clear hfz39_0 hfz39_1 hfz39_2 hfz39_3 hfz39_4 hfz39_5 hfz39_6); (try clear hfz43_0 hfz43_1 hfz43_2 hfz43_3 hfz43_4); (try clear hfz47_0 hfz47_1 hfz47_2 hfz47_3 hfz47_4); (try clear hfz49_0 hfz49_1 hfz49_2 hfz49_3 hfz49_4 hfz49_5 hfz49_6); (try clear hfz52_0 hfz52_1 hfz52_2 hfz52_3 hfz52_4); (try clear hfz54_0 hfz54_1 hfz54_2 hfz54_3 hfz54_4 hfz54_5 hfz54_6); (try clear hfz58_0 hfz58_1 hfz58_2 hfz58_3 hfz58_4); (try clear hfz8_0 hfz8_1 hfz8_2 hfz8_3 hfz8_4 hfz8_5 hfz8_6); (try clear hfz9_0 hfz9_1 hfz9_2 hfz9_3 hfz9_4); (try clear hx143_0 hx143_1 hx143_2 hx143_3 hx143_4); (try clear p1); (try clear p14); (try clear p143); (try clear p2); (try clear p6); (try clear q1); (try clear q14); (try clear q143); (obtain ⟨x72_4, rfl, HA, HK4, BK141, BK142, BK144, HB⟩ := hrel)
              cases gk with
              | zero => exact absurd HA.out (by simp [cst_rightInner.l0])
              | succ k4 =>
               (have H := HA.out); clear HA; (simp only [cst_rightInner.l0] at H); (by_cases c59 : x72_4 < (((rd_T58 l0_3 a1_1).f1).length : Int))
               ·rw [if_pos c59] at H
                (have c59b0 : decide (x72_4 < (((rd_T58 l0_3 a1_1).f1).length : Int)) = true := decide_eq_true c59); clear c59; (by_cases c60 : 0 ≤ x72_4)
                ·rw [if_pos c60] at H
                 (have c60b0 : decide (0 ≤ x72_4) = true := decide_eq_true c60); clear c60; (by_cases c61 : x72_4 < (((rd_T58 l0_3 a1_1).f1).length : Int))
                 ·rw [if_pos c61] at H
                  (have c61b0 : decide (x72_4 < (((rd_T58 l0_3 a1_1).f1).length : Int)) = true := decide_eq_true c61); clear c61; (by_cases c62 : x72_4 < (l1_6.length : Int))
                  ·rw [if_pos c62] at H
                   (have c62b0 : decide (x72_4 < (l1_6.length : Int)) = true := decide_eq_true c62); clear c62; (by_cases c63 : ((rd_T26 l1_6 x72_4).f0) = (rd ((rd_T58 l0_3 a1_1).f1) x72_4))
                   ·rw [if_pos c63] at H
                    (have c63b0 : (((rd_T26 l1_6 x72_4).f0) == (rd ((rd_T58 l0_3 a1_1).f1) x72_4)) = true := beq_iff_eq.mpr c63); (have c63b1 : (((rd_T26 l1_6 x72_4).f0) != (rd ((rd_T58 l0_3 a1_1).f1) x72_4)) = false := bne_eq_false_iff_eq.mpr c63); clear c63; (have H' := qM H); clear H; (have p145 : 0 ≤ (x72_4 : Int) := qo qX); (have q145 : x72_4 < (((rd_T58 l0_3 a1_1).f1).length : Int) := qo qX); (obtain ⟨ad145, e145, hx145_0⟩ := Kd.at_int HR143_1.out x72_4 p145 q145)
                    cases e145
                    (replace hx145_0 := (HB.out.cell (qB w _ hx145_0)).trans hx145_0); (replace p145 := eq_true p145); (replace q145 := eq_true q145); (have hnb64 := NB142_141.out); (have hnc64 := NB141_142.out); (have hnb65 := NB142_144.out); (have hnc65 := NB144_142.out); (obtain ⟨hcz66_0, hcz66_1, hcz66_2, hcz66_3, hcz66_4, hcz66_5, hcz66_6, hfz66_0, hfz66_1, hfz66_2, hfz66_3, hfz66_4, hfz66_5, hfz66_6⟩ := bx7 BK142.out); (have p146 : 0 ≤ (x72_4 : Int) := qo qX); (have q146 : x72_4 < (l1_6.length : Int) := qo qX); (obtain ⟨ad146, A146_4, c146_4, A146_6, c146_6, e146, hx146_0, hx146_1, hx146_2, hx146_3, hx146_4, hx146_5, hx146_6, hl146_4, hi146_4, hl146_6, hi146_6⟩ := at_T26 HR1_6.out x72_4 p146 q146)
                    cases e146
                    (replace hx146_0 := (HB.out.cell (qB w _ hx146_0)).trans hx146_0); (replace hx146_1 := (HB.out.cell (qB w _ hx146_1)).trans hx146_1); (replace hx146_2 := (HB.out.cell (qB w _ hx146_2)).trans hx146_2); (replace hx146_3 := (HB.out.cell (qB w _ hx146_3)).trans hx146_3); (replace hx146_4 := (HB.out.cell (qB w _ hx146_4)).trans hx146_4); (replace hx146_5 := (HB.out.cell (qB w _ hx146_5)).trans hx146_5); (replace hx146_6 := (HB.out.cell (qB w _ hx146_6)).trans hx146_6); (have HR146_4 := qM hi146_4); (have HC146_4 := qM hl146_4); clear hi146_4 hl146_4; (have HR146_6 := qM hi146_6); (have HC146_6 := qM hl146_6); clear hi146_6 hl146_6; (replace p146 := eq_true p146); (replace q146 := eq_true q146); go_wp2; (go_roundg k4)
                    case measure => have := HJ2.out; have := HJ20.out; have := HJ35.out; have := HK4.out; omega
                    case rel => exact ⟨(wrap64 (x72_4 + 1)), qV, H', ⟨by have := HJ2.out; have := HJ20.out; have := HJ35.out; have := HK4.out; omega⟩, ⟨qK⟩, ⟨qK⟩, ⟨qK⟩, ⟨qF⟩⟩
                   ·rw [if_neg c63] at H
                    (have c63b0 : (((rd_T26 l1_6 x72_4).f0) == (rd ((rd_T58 l0_3 a1_1).f1) x72_4)) = false := beq_eq_false_iff_ne.mpr c63); (have c63b1 : (((rd_T26 l1_6 x72_4).f0) != (rd ((rd_T58 l0_3 a1_1).f1) x72_4)) = true := bne_iff_ne.mpr c63); (obtain rfl := Option.some.inj H); (have p145 : 0 ≤ (x72_4 : Int) := qo qX); (have q145 : x72_4 < (((rd_T58 l0_3 a1_1).f1).length : Int) := qo qX); (obtain ⟨ad145, e145, hx145_0⟩ := Kd.at_int HR143_1.out x72_4 p145 q145)
                    cases e145
                    (replace hx145_0 := (HB.out.cell (qB w _ hx145_0)).trans hx145_0); (replace p145 := eq_true p145); (replace q145 := eq_true q145); (have hnb67 := NB142_141.out); (have hnc67 := NB141_142.out); (have hnb68 := NB142_144.out); (have hnc68 := NB144_142.out); (obtain ⟨hcz69_0, hcz69_1, hcz69_2, hcz69_3, hcz69_4, hcz69_5, hcz69_6, hfz69_0, hfz69_1, hfz69_2, hfz69_3, hfz69_4, hfz69_5, hfz69_6⟩ := bx7 BK142.out); (have p146 : 0 ≤ (x72_4 : Int) := qo qX); (have q146 : x72_4 < (l1_6.length : Int) := qo qX); (obtain ⟨ad146, A146_4, c146_4, A146_6, c146_6, e146, hx146_0, hx146_1, hx146_2, hx146_3, hx146_4, hx146_5, hx146_6, hl146_4, hi146_4, hl146_6, hi146_6⟩ := at_T26 HR1_6.out x72_4 p146 q146)
                    cases e146
                    (replace hx146_0 := (HB.out.cell (qB w _ hx146_0)).trans hx146_0); (replace hx146_1 := (HB.out.cell (qB w _ hx146_1)).trans hx146_1); (replace hx146_2 := (HB.out.cell (qB w _ hx146_2)).trans hx146_2); (replace hx146_3 := (HB.out.cell (qB w _ hx146_3)).trans hx146_3); (replace hx146_4 := (HB.out.cell (qB w _ hx146_4)).trans hx146_4); (replace hx146_5 := (HB.out.cell (qB w _ hx146_5)).trans hx146_5); (replace hx146_6 := (HB.out.cell (qB w _ hx146_6)).trans hx146_6); (have HR146_4 := qM hi146_4); (have HC146_4 := qM hl146_4); clear hi146_4 hl146_4; (have HR146_6 := qM hi146_6); (have HC146_6 := qM hl146_6); clear hi146_6 hl146_6; (replace p146 := eq_true p146); (replace q146 := eq_true q146); go_wp2; (go_ret); (exact ⟨qE, qF⟩)
                  ·rw [if_neg c62] at H
                   exact absurd H (by simp)
                 ·rw [if_neg c61] at H
                  exact absurd H (by simp)
                ·rw [if_neg c60] at H
                 exact absurd H (by simp)
               ·rw [if_neg c59] at H
                (have c59b0 : decide (x72_4 < (((rd_T58 l0_3 a1_1).f1).length : Int)) = false := decide_eq_false c59); clear c59; (obtain rfl := Option.some.inj H); go_wp2; (go_ret); (exact ⟨qE, qF⟩)
         ·rw [if_neg c35] at H
          exact absurd H (by simp)
        ·rw [if_neg c34] at H
         exact absurd H (by simp)
end Go.Proofs.YtphmgaijkdflnaaDoor.H
end
section
namespace Go.Proofs.YtphmgaijkdflnaaDoor.H
open Go.RowKit
set_option linter.unusedVariables false
set_option linter.unusedSimpArgs false
theorem rune_w_pos (s : ByteArray) (pos : Nat) : 1 ≤ (Utf8.decode s pos).2 := Lib.width_pos s pos
theorem rune_w_le (s : ByteArray) (pos : Nat) (h : pos < s.size) : pos + (Utf8.decode s pos).2 ≤ s.size := by
  have h1 := Lib.tail_decode s pos 0
  have h2 := Lib.width_le (s.extract pos s.size) (by simp; omega)
  rw [Lib.tail_decode] at h2
  simp at h2
  omega
def runesFrom (s : ByteArray) : Nat → Nat → List S87
  | 0, _ => []
  | f + 1, pos => if pos < s.size then ⟨((Utf8.decode s pos).1 : Int), (pos : Int), ((Utf8.decode s pos).2 : Int)⟩ :: runesFrom s f (pos + (Utf8.decode s pos).2) else []
def runesL (s : ByteArray) : List S87 := runesFrom s s.size 0
theorem runesFrom_end (s : ByteArray) (f pos : Nat) (h : ¬ pos < s.size) : runesFrom s f pos = [] := by
  cases f <;> simp [runesFrom, h]
end Go.Proofs.YtphmgaijkdflnaaDoor.H
end
section
namespace Go.Proofs.YtphmgaijkdflnaaDoor.H
open Go.RowKit Go.Proofs.YtphmgaijkdflnaaDoorW.PrintWords Go.Proofs.YtphmgaijkdflnaaDoorW.PrintLast Go.Proofs.YtphmgaijkdflnaaDoorW.PrintMore
attribute [local go_sem] max2_int min2_int max_two min_two max_three min_three max_four min_four
set_option linter.unusedVariables false
set_option linter.unusedSimpArgs false
def grammar_Sym.f (l0_0 : List ByteArray) (l0_1 : List ByteArray) (l0_2 : List Int) (l0_3 : List (S58)) (l0_4 : List (S61)) (a1 : Int) : Option (ByteArray) := (grammar_there.f l0_0 l0_1 l0_2 l0_3 l0_4 a1).bind fun t181 => (if t181 = true then (if a1 < 0 then (if 0 ≤ (wrap64 ((-1) - a1)) then (if (wrap64 ((-1) - a1)) < (l0_1.length : Int) then (some (rdOf ByteArray.empty l0_1 (wrap64 ((-1) - a1)))) else (none)) else (none)) else (if 0 ≤ a1 then (if a1 < (l0_0.length : Int) then (some (rdOf ByteArray.empty l0_0 a1)) else (none)) else (none))) else (some (⟨#[63]⟩ : ByteArray)))
set_option maxHeartbeats 8000000 in
set_option maxRecDepth 100000 in
theorem grammar_Sym.calls (A0_0 : Option Addr) (c0_0 : Nat) (l0_0 : List ByteArray) (A0_1 : Option Addr) (c0_1 : Nat) (l0_1 : List ByteArray) (A0_2 : Option Addr) (c0_2 : Nat) (l0_2 : List Int) (A0_3 : Option Addr) (c0_3 : Nat) (l0_3 : List (S58)) (A0_4 : Option Addr) (c0_4 : Nat) (l0_4 : List (S61)) (a1 : Int) (r : ByteArray) (w : World) (hr0_0 : Kd.C Kd.string w A0_0 l0_0.length l0_0) (hc0_0 : l0_0.length ≤ c0_0) (hr0_1 : Kd.C Kd.string w A0_1 l0_1.length l0_1) (hc0_1 : l0_1.length ≤ c0_1) (hr0_2 : Kd.C (Kd.int .i64) w A0_2 l0_2.length l0_2) (hc0_2 : l0_2.length ≤ c0_2) (hr0_3 : Kd.C k58 w A0_3 l0_3.length l0_3) (hc0_3 : l0_3.length ≤ c0_3) (hr0_4 : Kd.C k61 w A0_4 l0_4.length l0_4) (hc0_4 : l0_4.length ≤ c0_4) (h : grammar_Sym.f l0_0 l0_1 l0_2 l0_3 l0_4 a1 = some r) :
  Calls Tryd.prog 43 #[.agg #[.slice A0_0 l0_0.length c0_0, .slice A0_1 l0_1.length c0_1, .slice A0_2 l0_2.length c0_2, .slice A0_3 l0_3.length c0_3, .slice A0_4 l0_4.length c0_4], .int .i64 a1] w fun e w' => e = .returned (.string r) ∧ Below w.heap.size w w' := by
 (have hu40 := Tryd.underlying40); (have HR0_0 := qM hr0_0); (have HC0_0 := qM hc0_0); clear hr0_0 hc0_0; (have HR0_1 := qM hr0_1); (have HC0_1 := qM hc0_1); clear hr0_1 hc0_1; (have HR0_2 := qM hr0_2); (have HC0_2 := qM hc0_2); clear hr0_2 hc0_2; (have HR0_3 := qM hr0_3); (have HC0_3 := qM hc0_3); clear hr0_3 hc0_3; (have HR0_4 := qM hr0_4); (have HC0_4 := qM hc0_4); clear hr0_4 hc0_4; (have HB := qM (Below.refl w.heap.size w)); (have H : ((grammar_there.f l0_0 l0_1 l0_2 l0_3 l0_4 a1).bind fun t181 => (if t181 = true then (if a1 < 0 then (if 0 ≤ (wrap64 ((-1) - a1)) then (if (wrap64 ((-1) - a1)) < (l0_1.length : Int) then (some (rdOf ByteArray.empty l0_1 (wrap64 ((-1) - a1)))) else (none)) else (none)) else (if 0 ≤ a1 then (if a1 < (l0_0.length : Int) then (some (rdOf ByteArray.empty l0_0 a1)) else (none)) else (none))) else (some (⟨#[63]⟩ : ByteArray)))) = some r := h); clear h; (replace H := Option.bind_eq_some_iff.mp H); (obtain ⟨t181, A30, H⟩ := H); (replace H : (if t181 = true then (if a1 < 0 then (if 0 ≤ (wrap64 ((-1) - a1)) then (if (wrap64 ((-1) - a1)) < (l0_1.length : Int) then (some (rdOf ByteArray.empty l0_1 (wrap64 ((-1) - a1)))) else (none)) else (none)) else (if 0 ≤ a1 then (if a1 < (l0_0.length : Int) then (some (rdOf ByteArray.empty l0_0 a1)) else (none)) else (none))) else (some (⟨#[63]⟩ : ByteArray))) = some r := H); (have A3 := qM A30); clear A30; (by_cases c4 : t181 = true)
 ·subst c4
  (have H1 : (if a1 < 0 then (if 0 ≤ (wrap64 ((-1) - a1)) then (if (wrap64 ((-1) - a1)) < (l0_1.length : Int) then (some (rdOf ByteArray.empty l0_1 (wrap64 ((-1) - a1)))) else (none)) else (none)) else (if 0 ≤ a1 then (if a1 < (l0_0.length : Int) then (some (rdOf ByteArray.empty l0_0 a1)) else (none)) else (none))) = some r := by rw [if_pos rfl] at H; exact H); clear H; (have H := H1); clear H1; (by_cases c5 : a1 < 0)
  ·rw [if_pos c5] at H
   (have c5b0 : decide (a1 < 0) = true := decide_eq_true c5); clear c5; (obtain ⟨ji6, hji6⟩ : ∃ j_ : Int, (wrap64 ((-1) - a1)) = j_ := ⟨_, rfl⟩); (replace H : (if 0 ≤ (ji6) then (if (ji6) < (l0_1.length : Int) then (some (rdOf ByteArray.empty l0_1 (ji6))) else (none)) else (none)) = some r := by first | (rw [hji6] at H; exact H) | (simp only [hji6] at H ⊢; exact H)); ((try rw [hji6] at A3)); (have hji6w : (IntKind.i64.wrap ((-1) - a1)) = ji6 := (i64_w _).trans hji6); (by_cases c7 : 0 ≤ (ji6))
   ·rw [if_pos c7] at H
    (have c7b0 : decide (0 ≤ (ji6)) = true := decide_eq_true c7); clear c7; (by_cases c8 : (ji6) < (l0_1.length : Int))
    ·rw [if_pos c8] at H
     (have c8b0 : decide ((ji6) < (l0_1.length : Int)) = true := decide_eq_true c8); clear c8; (obtain rfl := Option.some.inj H); (go_enter Tryd.func43, Tryd.ntmps43)
     go_wp2_with (first | ((with_reducible refine gate_dst (N := 2) rfl ?_); refine box_event ?hg (N := 2) ?hd (cs := #[.slice A0_0 l0_0.length c0_0, .slice A0_1 l0_1.length c0_1, .slice A0_2 l0_2.length c0_2, .slice A0_3 l0_3.length c0_3, .slice A0_4 l0_4.length c0_4]) (t := 40) ?hr ?_; (case hd => rfl); (case hg => rfl); (case hr => first | (go_simp; done) | (go_simp; rfl)); intro gb180 hg w9 hbox hb; have n0_ := qM (qP qF hb); have n1_ := qM (hbox); have n2_ := qM ((by rw [hg]; exact (qZ qF) : w.heap.size ≤ gb180)); have n3_ := qM ((by rw [hg]; exact (qZ qF) : w.heap.size ≤ gb180)); clear HB; have HB := n0_; have BK180 := n1_; have GW180 := n2_; have GE180 := n3_; clear n0_ n1_ n2_ n3_; clear hb hbox hg; obtain ⟨hcz10_0, hcz10_1, hcz10_2, hcz10_3, hcz10_4, hfz10_0, hfz10_1, hfz10_2, hfz10_3, hfz10_4⟩ := bx5 BK180.out) | ((with_reducible refine gate_callee (f := 65) rfl ?_); refine goesL_ (some 8) rfl rfl Tryd.func65 (by kernel_rfl) rfl #[.agg #[.slice A0_0 l0_0.length c0_0, .slice A0_1 l0_1.length c0_1, .slice A0_2 l0_2.length c0_2, .slice A0_3 l0_3.length c0_3, .slice A0_4 l0_4.length c0_4], .int .i64 a1] rfl (by (try simp only [List.map_toArray, List.map_cons, List.map_nil]); first | done | rfl | (simp only [List.length_drop, List.length_take]; rfl)) ?_; (with_reducible refine (grammar_there.calls _ _ l0_0 _ _ l0_1 _ _ l0_2 _ _ l0_3 _ _ l0_4 a1 true _ ?side1 ?side2 ?side3 ?side4 ?side5 ?side6 ?side7 ?side8 ?side9 ?side10 A3.out).mono ?_); (case side1 => exact qC HR0_0.out qF); (case side2 => exact HC0_0.out); (case side3 => exact qC HR0_1.out qF); (case side4 => exact HC0_1.out); (case side5 => exact qC HR0_2.out qF); (case side6 => exact HC0_2.out); (case side7 => exact qC HR0_3.out qF); (case side8 => exact HC0_3.out); (case side9 => exact qC HR0_4.out qF); (case side10 => exact HC0_4.out); rintro e w11 ⟨rfl, hb⟩; refine ⟨_, rfl, ?_⟩; have n0_ := qM (qb (g := gb180) qK hb); have n1_ := qM (qP qF hb); clear BK180; clear HB; have BK180 := n0_; have HB := n1_; clear n0_ n1_; (try clear hb); (try clear hb2); (try clear hk); (try clear hi); obtain ⟨hcz12_0, hcz12_1, hcz12_2, hcz12_3, hcz12_4, hfz12_0, hfz12_1, hfz12_2, hfz12_3, hfz12_4⟩ := bx5 BK180.out; have p182 : 0 ≤ ((ji6) : Int) := qo qX; have q182 : (ji6) < (l0_1.length : Int) := qo qX; obtain ⟨ad182, e182, hx182_0⟩ := Kd.at_string HR0_1.out (ji6) p182 q182; cases e182; replace hx182_0 := (HB.out.cell (qB w _ hx182_0)).trans hx182_0; replace p182 := eq_true p182; replace q182 := eq_true q182))
     (go_ret); (exact ⟨by first | rfl | (simp [errW_none, errW_some] <;> rfl) | (simp only [← hji6]; first | rfl | (simp [errW_none, errW_some] <;> rfl)) | (simp [*, errW_none, errW_some] <;> rfl), qF⟩)
    ·rw [if_neg c8] at H
     exact absurd H (by simp)
   ·rw [if_neg c7] at H
    exact absurd H (by simp)
  ·rw [if_neg c5] at H
   (have c5b0 : decide (a1 < 0) = false := decide_eq_false c5); clear c5; (by_cases c13 : 0 ≤ a1)
   ·rw [if_pos c13] at H
    (have c13b0 : decide (0 ≤ a1) = true := decide_eq_true c13); clear c13; (by_cases c14 : a1 < (l0_0.length : Int))
    ·rw [if_pos c14] at H
     (have c14b0 : decide (a1 < (l0_0.length : Int)) = true := decide_eq_true c14); clear c14; (obtain rfl := Option.some.inj H); (go_enter Tryd.func43, Tryd.ntmps43)
     go_wp2_with (first | ((with_reducible refine gate_dst (N := 2) rfl ?_); refine box_event ?hg (N := 2) ?hd (cs := #[.slice A0_0 l0_0.length c0_0, .slice A0_1 l0_1.length c0_1, .slice A0_2 l0_2.length c0_2, .slice A0_3 l0_3.length c0_3, .slice A0_4 l0_4.length c0_4]) (t := 40) ?hr ?_; (case hd => rfl); (case hg => rfl); (case hr => first | (go_simp; done) | (go_simp; rfl)); intro gb180 hg w15 hbox hb; have n0_ := qM (qP qF hb); have n1_ := qM (hbox); have n2_ := qM ((by rw [hg]; exact (qZ qF) : w.heap.size ≤ gb180)); have n3_ := qM ((by rw [hg]; exact (qZ qF) : w.heap.size ≤ gb180)); clear HB; have HB := n0_; have BK180 := n1_; have GW180 := n2_; have GE180 := n3_; clear n0_ n1_ n2_ n3_; clear hb hbox hg; obtain ⟨hcz16_0, hcz16_1, hcz16_2, hcz16_3, hcz16_4, hfz16_0, hfz16_1, hfz16_2, hfz16_3, hfz16_4⟩ := bx5 BK180.out) | ((with_reducible refine gate_callee (f := 65) rfl ?_); refine goesL_ (some 8) rfl rfl Tryd.func65 (by kernel_rfl) rfl #[.agg #[.slice A0_0 l0_0.length c0_0, .slice A0_1 l0_1.length c0_1, .slice A0_2 l0_2.length c0_2, .slice A0_3 l0_3.length c0_3, .slice A0_4 l0_4.length c0_4], .int .i64 a1] rfl (by (try simp only [List.map_toArray, List.map_cons, List.map_nil]); first | done | rfl | (simp only [List.length_drop, List.length_take]; rfl)) ?_; (with_reducible refine (grammar_there.calls _ _ l0_0 _ _ l0_1 _ _ l0_2 _ _ l0_3 _ _ l0_4 a1 true _ ?side1 ?side2 ?side3 ?side4 ?side5 ?side6 ?side7 ?side8 ?side9 ?side10 A3.out).mono ?_); (case side1 => exact qC HR0_0.out qF); (case side2 => exact HC0_0.out); (case side3 => exact qC HR0_1.out qF); (case side4 => exact HC0_1.out); (case side5 => exact qC HR0_2.out qF); (case side6 => exact HC0_2.out); (case side7 => exact qC HR0_3.out qF); (case side8 => exact HC0_3.out); (case side9 => exact qC HR0_4.out qF); (case side10 => exact HC0_4.out); rintro e w17 ⟨rfl, hb⟩; refine ⟨_, rfl, ?_⟩; have n0_ := qM (qb (g := gb180) qK hb); have n1_ := qM (qP qF hb); clear BK180; clear HB; have BK180 := n0_; have HB := n1_; clear n0_ n1_; (try clear hb); (try clear hb2); (try clear hk); (try clear hi); obtain ⟨hcz18_0, hcz18_1, hcz18_2, hcz18_3, hcz18_4, hfz18_0, hfz18_1, hfz18_2, hfz18_3, hfz18_4⟩ := bx5 BK180.out; have p183 : 0 ≤ (a1 : Int) := qo qX; have q183 : a1 < (l0_0.length : Int) := qo qX; obtain ⟨ad183, e183, hx183_0⟩ := Kd.at_string HR0_0.out a1 p183 q183; cases e183; replace hx183_0 := (HB.out.cell (qB w _ hx183_0)).trans hx183_0; replace p183 := eq_true p183; replace q183 := eq_true q183))
     (go_ret); (exact ⟨qE, qF⟩)
    ·rw [if_neg c14] at H
     exact absurd H (by simp)
   ·rw [if_neg c13] at H
    exact absurd H (by simp)
 ·replace c4 := Bool.eq_false_iff.mpr c4
  subst c4; (have H1 : (some (⟨#[63]⟩ : ByteArray)) = some r := by rw [if_neg (show ¬ (false = true) by decide)] at H; exact H); clear H; (have H := H1); clear H1; (obtain rfl := Option.some.inj H); (go_enter Tryd.func43, Tryd.ntmps43)
  go_wp2_with (first | ((with_reducible refine gate_dst (N := 2) rfl ?_); refine box_event ?hg (N := 2) ?hd (cs := #[.slice A0_0 l0_0.length c0_0, .slice A0_1 l0_1.length c0_1, .slice A0_2 l0_2.length c0_2, .slice A0_3 l0_3.length c0_3, .slice A0_4 l0_4.length c0_4]) (t := 40) ?hr ?_; (case hd => rfl); (case hg => rfl); (case hr => first | (go_simp; done) | (go_simp; rfl)); intro gb180 hg w19 hbox hb; have n0_ := qM (qP qF hb); have n1_ := qM (hbox); have n2_ := qM ((by rw [hg]; exact (qZ qF) : w.heap.size ≤ gb180)); have n3_ := qM ((by rw [hg]; exact (qZ qF) : w.heap.size ≤ gb180)); clear HB; have HB := n0_; have BK180 := n1_; have GW180 := n2_; have GE180 := n3_; clear n0_ n1_ n2_ n3_; clear hb hbox hg; obtain ⟨hcz20_0, hcz20_1, hcz20_2, hcz20_3, hcz20_4, hfz20_0, hfz20_1, hfz20_2, hfz20_3, hfz20_4⟩ := bx5 BK180.out) | ((with_reducible refine gate_callee (f := 65) rfl ?_); refine goesL_ (some 8) rfl rfl Tryd.func65 (by kernel_rfl) rfl #[.agg #[.slice A0_0 l0_0.length c0_0, .slice A0_1 l0_1.length c0_1, .slice A0_2 l0_2.length c0_2, .slice A0_3 l0_3.length c0_3, .slice A0_4 l0_4.length c0_4], .int .i64 a1] rfl (by (try simp only [List.map_toArray, List.map_cons, List.map_nil]); first | done | rfl | (simp only [List.length_drop, List.length_take]; rfl)) ?_; (with_reducible refine (grammar_there.calls _ _ l0_0 _ _ l0_1 _ _ l0_2 _ _ l0_3 _ _ l0_4 a1 false _ ?side1 ?side2 ?side3 ?side4 ?side5 ?side6 ?side7 ?side8 ?side9 ?side10 A3.out).mono ?_); (case side1 => exact qC HR0_0.out qF); (case side2 => exact HC0_0.out); (case side3 => exact qC HR0_1.out qF); (case side4 => exact HC0_1.out); (case side5 => exact qC HR0_2.out qF); (case side6 => exact HC0_2.out); (case side7 => exact qC HR0_3.out qF); (case side8 => exact HC0_3.out); (case side9 => exact qC HR0_4.out qF); (case side10 => exact HC0_4.out); rintro e w21 ⟨rfl, hb⟩; refine ⟨_, rfl, ?_⟩; have n0_ := qM (qb (g := gb180) qK hb); have n1_ := qM (qP qF hb); clear BK180; clear HB; have BK180 := n0_; have HB := n1_; clear n0_ n1_; (try clear hb); (try clear hb2); (try clear hk); (try clear hi)))
  (go_ret); (exact ⟨qE, qF⟩)
def arboristlaw21_Sum.f  : Option (List ByteArray × List ByteArray × List Int × (List (S58)) × (List (S61))) := some ((([(⟨#[36, 101, 110, 100]⟩ : ByteArray), (⟨#[36, 101, 114, 114, 111, 114]⟩ : ByteArray), (⟨#[110]⟩ : ByteArray), (⟨#[34, 43, 34]⟩ : ByteArray)] : List ByteArray)), (([(⟨#[36, 115, 116, 97, 114, 116]⟩ : ByteArray), (⟨#[101]⟩ : ByteArray)] : List ByteArray)), (([0, 0] : List Int)), (([(⟨0, (([(-2)] : List Int)), ([] : List ByteArray), (⟨#[]⟩ : ByteArray), 0⟩ : S58), (⟨1, (([(-2), 3, (-2)] : List Int)), ([] : List ByteArray), (⟨#[]⟩ : ByteArray), 0⟩ : S58), (⟨1, (([2] : List Int)), ([] : List ByteArray), (⟨#[]⟩ : ByteArray), 0⟩ : S58)] : List (S58))), ([] : List (S61)))
set_option maxHeartbeats 8000000 in
set_option maxRecDepth 100000 in
theorem arboristlaw21_Sum.calls  (r1 : List ByteArray) (r2 : List ByteArray) (r3 : List Int) (r4 : List (S58)) (r5 : List (S61)) (w : World) (h : arboristlaw21_Sum.f  = some (r1, r2, r3, r4, r5)) :
  Calls Tryd.prog 29 #[] w fun e w' => ∃ v0_ v1_ v2_ v3_ v4_ : Value, e = .returned (.agg #[v0_, v1_, v2_, v3_, v4_]) ∧ Kd.R Kd.string 9 w' w.heap.size (fun k_ => (w.heap.size ≤ k_) ∧ some k_ ≠ (v1_ : Value).ownBlock) v0_ r1 ∧ Kd.R Kd.string 9 w' w.heap.size (fun k_ => (w.heap.size ≤ k_) ∧ some k_ ≠ (v0_ : Value).ownBlock) v1_ r2 ∧ Kd.R (Kd.int .i64) 75 w' w.heap.size (fun k_ => (w.heap.size ≤ k_)) v2_ r3 ∧ Kd.N k58 58 w' w.heap.size (fun k_ => (w.heap.size ≤ k_) ∧ some k_ ≠ (v0_ : Value).ownBlock ∧ some k_ ≠ (v1_ : Value).ownBlock ∧ some k_ ≠ (v2_ : Value).ownBlock ∧ some k_ ≠ (v4_ : Value).ownBlock) v3_ r4 ∧ Kd.N k61 61 w' w.heap.size (fun k_ => (w.heap.size ≤ k_) ∧ some k_ ≠ (v0_ : Value).ownBlock ∧ some k_ ≠ (v1_ : Value).ownBlock ∧ some k_ ≠ (v2_ : Value).ownBlock ∧ some k_ ≠ (v3_ : Value).ownBlock) v4_ r5 ∧ Below w.heap.size w w' := by
 (have hu40 := Tryd.underlying40); (have hu58 := Tryd.underlying58); (have HB := qM (Below.refl w.heap.size w)); (have H : (some ((([(⟨#[36, 101, 110, 100]⟩ : ByteArray), (⟨#[36, 101, 114, 114, 111, 114]⟩ : ByteArray), (⟨#[110]⟩ : ByteArray), (⟨#[34, 43, 34]⟩ : ByteArray)] : List ByteArray)), (([(⟨#[36, 115, 116, 97, 114, 116]⟩ : ByteArray), (⟨#[101]⟩ : ByteArray)] : List ByteArray)), (([0, 0] : List Int)), (([(⟨0, (([(-2)] : List Int)), ([] : List ByteArray), (⟨#[]⟩ : ByteArray), 0⟩ : S58), (⟨1, (([(-2), 3, (-2)] : List Int)), ([] : List ByteArray), (⟨#[]⟩ : ByteArray), 0⟩ : S58), (⟨1, (([2] : List Int)), ([] : List ByteArray), (⟨#[]⟩ : ByteArray), 0⟩ : S58)] : List (S58))), ([] : List (S61)))) = some (r1, r2, r3, r4, r5) := h); clear h; (obtain ⟨y102, hy102⟩ : ∃ y_ : List ByteArray, y_ = (([(⟨#[36, 101, 110, 100]⟩ : ByteArray), (⟨#[36, 101, 114, 114, 111, 114]⟩ : ByteArray), (⟨#[110]⟩ : ByteArray), (⟨#[34, 43, 34]⟩ : ByteArray)] : List ByteArray)) := ⟨_, rfl⟩)
 replace H : (some (y102, (([(⟨#[36, 115, 116, 97, 114, 116]⟩ : ByteArray), (⟨#[101]⟩ : ByteArray)] : List ByteArray)), (([0, 0] : List Int)), (([(⟨0, (([(-2)] : List Int)), ([] : List ByteArray), (⟨#[]⟩ : ByteArray), 0⟩ : S58), (⟨1, (([(-2), 3, (-2)] : List Int)), ([] : List ByteArray), (⟨#[]⟩ : ByteArray), 0⟩ : S58), (⟨1, (([2] : List Int)), ([] : List ByteArray), (⟨#[]⟩ : ByteArray), 0⟩ : S58)] : List (S58))), ([] : List (S61)))) = some (r1, r2, r3, r4, r5) := by first | (rw [hy102]; with_reducible exact H) | (have H2_ := (Option.bind_some _ _).symm.trans H; rw [hy102]; with_reducible exact H2_) | (have H2_ := (Option.bind_some _ _).symm.trans H; with_reducible exact H2_) | with_reducible exact H | (rw [hy102]; exact H) | exact H
 (have Ny102 := qM hy102); clear hy102; (obtain ⟨y105, hy105⟩ : ∃ y_ : List ByteArray, y_ = (([(⟨#[36, 115, 116, 97, 114, 116]⟩ : ByteArray), (⟨#[101]⟩ : ByteArray)] : List ByteArray)) := ⟨_, rfl⟩); (replace H : (some (y102, y105, (([0, 0] : List Int)), (([(⟨0, (([(-2)] : List Int)), ([] : List ByteArray), (⟨#[]⟩ : ByteArray), 0⟩ : S58), (⟨1, (([(-2), 3, (-2)] : List Int)), ([] : List ByteArray), (⟨#[]⟩ : ByteArray), 0⟩ : S58), (⟨1, (([2] : List Int)), ([] : List ByteArray), (⟨#[]⟩ : ByteArray), 0⟩ : S58)] : List (S58))), ([] : List (S61)))) = some (r1, r2, r3, r4, r5) := by first | (rw [hy105]; with_reducible exact H) | (have H2_ := (Option.bind_some _ _).symm.trans H; rw [hy105]; with_reducible exact H2_) | (have H2_ := (Option.bind_some _ _).symm.trans H; with_reducible exact H2_) | with_reducible exact H | (rw [hy105]; exact H) | exact H); (have Ny105 := qM hy105); clear hy105; (obtain ⟨y108, hy108⟩ : ∃ y_ : List Int, y_ = (([0, 0] : List Int)) := ⟨_, rfl⟩); (replace H : (some (y102, y105, y108, (([(⟨0, (([(-2)] : List Int)), ([] : List ByteArray), (⟨#[]⟩ : ByteArray), 0⟩ : S58), (⟨1, (([(-2), 3, (-2)] : List Int)), ([] : List ByteArray), (⟨#[]⟩ : ByteArray), 0⟩ : S58), (⟨1, (([2] : List Int)), ([] : List ByteArray), (⟨#[]⟩ : ByteArray), 0⟩ : S58)] : List (S58))), ([] : List (S61)))) = some (r1, r2, r3, r4, r5) := by first | (rw [hy108]; with_reducible exact H) | (have H2_ := (Option.bind_some _ _).symm.trans H; rw [hy108]; with_reducible exact H2_) | (have H2_ := (Option.bind_some _ _).symm.trans H; with_reducible exact H2_) | with_reducible exact H | (rw [hy108]; exact H) | exact H); (have Ny108 := qM hy108); clear hy108; (obtain ⟨y111, hy111⟩ : ∃ y_ : List Int, y_ = (([(-2)] : List Int)) := ⟨_, rfl⟩); (replace H : (some (y102, y105, y108, (([(⟨0, y111, ([] : List ByteArray), (⟨#[]⟩ : ByteArray), 0⟩ : S58), (⟨1, (([(-2), 3, (-2)] : List Int)), ([] : List ByteArray), (⟨#[]⟩ : ByteArray), 0⟩ : S58), (⟨1, (([2] : List Int)), ([] : List ByteArray), (⟨#[]⟩ : ByteArray), 0⟩ : S58)] : List (S58))), ([] : List (S61)))) = some (r1, r2, r3, r4, r5) := by first | (rw [hy111]; with_reducible exact H) | (have H2_ := (Option.bind_some _ _).symm.trans H; rw [hy111]; with_reducible exact H2_) | (have H2_ := (Option.bind_some _ _).symm.trans H; with_reducible exact H2_) | with_reducible exact H | (rw [hy111]; exact H) | exact H); (have Ny111 := qM hy111); clear hy111; (obtain ⟨y114, hy114⟩ : ∃ y_ : List Int, y_ = (([(-2), 3, (-2)] : List Int)) := ⟨_, rfl⟩); (replace H : (some (y102, y105, y108, (([(⟨0, y111, ([] : List ByteArray), (⟨#[]⟩ : ByteArray), 0⟩ : S58), (⟨1, y114, ([] : List ByteArray), (⟨#[]⟩ : ByteArray), 0⟩ : S58), (⟨1, (([2] : List Int)), ([] : List ByteArray), (⟨#[]⟩ : ByteArray), 0⟩ : S58)] : List (S58))), ([] : List (S61)))) = some (r1, r2, r3, r4, r5) := by first | (rw [hy114]; with_reducible exact H) | (have H2_ := (Option.bind_some _ _).symm.trans H; rw [hy114]; with_reducible exact H2_) | (have H2_ := (Option.bind_some _ _).symm.trans H; with_reducible exact H2_) | with_reducible exact H | (rw [hy114]; exact H) | exact H)
 (have Ny114 := qM hy114); clear hy114; (obtain ⟨y117, hy117⟩ : ∃ y_ : List Int, y_ = (([2] : List Int)) := ⟨_, rfl⟩); (replace H : (some (y102, y105, y108, (([(⟨0, y111, ([] : List ByteArray), (⟨#[]⟩ : ByteArray), 0⟩ : S58), (⟨1, y114, ([] : List ByteArray), (⟨#[]⟩ : ByteArray), 0⟩ : S58), (⟨1, y117, ([] : List ByteArray), (⟨#[]⟩ : ByteArray), 0⟩ : S58)] : List (S58))), ([] : List (S61)))) = some (r1, r2, r3, r4, r5) := by first | (rw [hy117]; with_reducible exact H) | (have H2_ := (Option.bind_some _ _).symm.trans H; rw [hy117]; with_reducible exact H2_) | (have H2_ := (Option.bind_some _ _).symm.trans H; with_reducible exact H2_) | with_reducible exact H | (rw [hy117]; exact H) | exact H); (have Ny117 := qM hy117); clear hy117; (obtain ⟨y120, hy120⟩ : ∃ y_ : List (S58), y_ = (([(⟨0, y111, ([] : List ByteArray), (⟨#[]⟩ : ByteArray), 0⟩ : S58), (⟨1, y114, ([] : List ByteArray), (⟨#[]⟩ : ByteArray), 0⟩ : S58), (⟨1, y117, ([] : List ByteArray), (⟨#[]⟩ : ByteArray), 0⟩ : S58)] : List (S58))) := ⟨_, rfl⟩); (replace H : (some (y102, y105, y108, y120, ([] : List (S61)))) = some (r1, r2, r3, r4, r5) := by first | (rw [hy120]; with_reducible exact H) | (have H2_ := (Option.bind_some _ _).symm.trans H; rw [hy120]; with_reducible exact H2_) | (have H2_ := (Option.bind_some _ _).symm.trans H; with_reducible exact H2_) | with_reducible exact H | (rw [hy120]; exact H) | exact H); (have Ny120 := qM hy120); clear hy120; (simp only [Option.some.injEq, Prod.mk.injEq] at H); (obtain ⟨rfl, rfl, rfl, rfl, rfl⟩ := H); (go_enter Tryd.func29, Tryd.ntmps29)
 go_wp2_with (first | ((with_reducible refine gate_dst (N := 0) rfl ?_); refine box_event ?hg (N := 0) ?hd (cs := #[.slice none 0 0, .slice none 0 0, .slice none 0 0, .slice none 0 0, .slice none 0 0]) (t := 40) ?hr ?_; (case hd => rfl); (case hg => rfl); (case hr => first | (go_simp; done) | (go_simp; rfl)); intro gb101 hg w1 hbox hb; have n0_ := qM (qP qF hb); have n1_ := qM (hbox); have n2_ := qM ((by rw [hg]; exact (qZ qF) : w.heap.size ≤ gb101)); have n3_ := qM ((by rw [hg]; exact (qZ qF) : w.heap.size ≤ gb101)); clear HB; have HB := n0_; have BK101 := n1_; have GW101 := n2_; have GE101 := n3_; clear n0_ n1_ n2_ n3_; clear hb hbox hg) | ((with_reducible refine gate_dst (N := 1) rfl ?_); refine Kd.R_lit Kd.string _ 9 ?hg (N := 1) ?hd (xs := ([(⟨#[36, 101, 110, 100]⟩ : ByteArray), (⟨#[36, 101, 114, 114, 111, 114]⟩ : ByteArray), (⟨#[110]⟩ : ByteArray), (⟨#[34, 43, 34]⟩ : ByteArray)] : List ByteArray)) (inner := [.string (⟨#[36, 101, 110, 100]⟩ : ByteArray), .string (⟨#[36, 101, 114, 114, 111, 114]⟩ : ByteArray), .string (⟨#[110]⟩ : ByteArray), .string (⟨#[34, 43, 34]⟩ : ByteArray)]) (ok := fun _ => True) (okp := fun _ => True) ?hr ?hp (fun _ hk => hk) trivial (Below.refl _ _) (Nat.le_refl _) (by simp) ?_; (case hd => rfl); (case hg => rfl); (case hr => first | (go_simp; done) | (go_simp; rfl)); (case hp => exact (Reps.one (show Kd.M Kd.string _ _ _ (⟨#[36, 101, 110, 100]⟩ : ByteArray) [.string (⟨#[36, 101, 110, 100]⟩ : ByteArray)] from rfl) (Reps.one (show Kd.M Kd.string _ _ _ (⟨#[36, 101, 114, 114, 111, 114]⟩ : ByteArray) [.string (⟨#[36, 101, 114, 114, 111, 114]⟩ : ByteArray)] from rfl) (Reps.one (show Kd.M Kd.string _ _ _ (⟨#[110]⟩ : ByteArray) [.string (⟨#[110]⟩ : ByteArray)] from rfl) (Reps.one (show Kd.M Kd.string _ _ _ (⟨#[34, 43, 34]⟩ : ByteArray) [.string (⟨#[34, 43, 34]⟩ : ByteArray)] from rfl) (Reps.none _ _)))))); intro v103 w2 ho3 hb hg_ hnew_; clear hg_ hnew_; (first | rw [← Ny102.out] at ho3 | (simp only [Int.reduceToNat] at ho3; rw [← Ny102.out] at ho3)); have n0_ := qM (Kd.R_lower (Kd.R_newM (M := fun k_ => (w.heap.size ≤ k_)) ho3 (qZ qF) (fun k_ h_ => h_)) (qZ qF)); have n1_ := qM (qb (g := gb101) qK hb); have n2_ := qM (qP qF hb); clear BK101; clear HB; have HO104 := n0_; have BK101 := n1_; have HB := n2_; clear n0_ n1_ n2_; clear hb ho3) | ((with_reducible refine gate_dst (N := 2) rfl ?_); refine Kd.R_lit Kd.string _ 9 ?hg (N := 2) ?hd (xs := ([(⟨#[36, 115, 116, 97, 114, 116]⟩ : ByteArray), (⟨#[101]⟩ : ByteArray)] : List ByteArray)) (inner := [.string (⟨#[36, 115, 116, 97, 114, 116]⟩ : ByteArray), .string (⟨#[101]⟩ : ByteArray)]) (ok := fun _ => True) (okp := fun _ => True) ?hr ?hp (fun _ hk => hk) trivial (Below.refl _ _) (Nat.le_refl _) (by simp) ?_; (case hd => rfl); (case hg => rfl); (case hr => first | (go_simp; done) | (go_simp; rfl)); (case hp => exact (Reps.one (show Kd.M Kd.string _ _ _ (⟨#[36, 115, 116, 97, 114, 116]⟩ : ByteArray) [.string (⟨#[36, 115, 116, 97, 114, 116]⟩ : ByteArray)] from rfl) (Reps.one (show Kd.M Kd.string _ _ _ (⟨#[101]⟩ : ByteArray) [.string (⟨#[101]⟩ : ByteArray)] from rfl) (Reps.none _ _)))); intro v106 w4 ho5 hb hg_ hnew_; clear hg_ hnew_; (first | rw [← Ny105.out] at ho5 | (simp only [Int.reduceToNat] at ho5; rw [← Ny105.out] at ho5)); have n0_ := qM (Kd.R_elder' (by (with_reducible repeat (first | apply Kd.R_alloc | apply Kd.R_drewN | apply Kd.R_drew)); exact HO104.out) (Kd.R_base ho5) hb); have n1_ := qM (Kd.R_lower (Kd.R_new' (Kd.R_newM (M := fun k_ => (w.heap.size ≤ k_)) ho5 (qZ qF) (fun k_ h_ => h_)) (Kd.R_lt (by (with_reducible repeat (first | apply Kd.R_alloc | apply Kd.R_drewN | apply Kd.R_drew)); exact HO104.out))) (qZ qF)); have n2_ := qM (qb (g := gb101) qK hb); have n3_ := qM (qP qF hb); clear HO104; clear BK101; clear HB; have HO104 := n0_; have HO107 := n1_; have BK101 := n2_; have HB := n3_; clear n0_ n1_ n2_ n3_; clear hb ho5) | ((with_reducible refine gate_dst (N := 3) rfl ?_); refine Kd.R_lit (Kd.int .i64) _ 75 ?hg (N := 3) ?hd (xs := ([0, 0] : List Int)) (inner := [.int .i64 0, .int .i64 0]) (ok := fun _ => True) (okp := fun _ => True) ?hr ?hp (fun _ hk => hk) trivial (Below.refl _ _) (Nat.le_refl _) (by simp) ?_; (case hd => rfl); (case hg => rfl); (case hr => first | (go_simp; done) | (go_simp; rfl)); (case hp => exact (Reps.one (show Kd.M (Kd.int .i64) _ _ _ 0 [.int .i64 0] from rfl) (Reps.one (show Kd.M (Kd.int .i64) _ _ _ 0 [.int .i64 0] from rfl) (Reps.none _ _)))); intro v109 w6 ho7 hb hg_ hnew_; clear hg_ hnew_; (first | rw [← Ny108.out] at ho7 | (simp only [Int.reduceToNat] at ho7; rw [← Ny108.out] at ho7)); have n0_ := qM (Kd.R_below (by (with_reducible repeat (first | apply Kd.R_alloc | apply Kd.R_drewN | apply Kd.R_drew)); exact HO104.out) hb); have n1_ := qM (Kd.R_below (by (with_reducible repeat (first | apply Kd.R_alloc | apply Kd.R_drewN | apply Kd.R_drew)); exact HO107.out) hb); have n2_ := qM (Kd.R_lower (Kd.R_newM (M := fun k_ => (w.heap.size ≤ k_)) ho7 (qZ qF) (fun k_ h_ => h_)) (qZ qF)); have n3_ := qM (qb (g := gb101) qK hb); have n4_ := qM (qP qF hb); clear HO104; clear HO107; clear BK101; clear HB; have HO104 := n0_; have HO107 := n1_; have HO110 := n2_; have BK101 := n3_; have HB := n4_; clear n0_ n1_ n2_ n3_ n4_; clear hb ho7) | ((with_reducible refine gate_dst (N := 4) rfl ?_); refine Kd.R_lit (Kd.int .i64) _ 3 ?hg (N := 4) ?hd (xs := ([(-2)] : List Int)) (inner := [.int .i64 (-2)]) (ok := fun _ => True) (okp := fun _ => True) ?hr ?hp (fun _ hk => hk) trivial (Below.refl _ _) (Nat.le_refl _) (by simp) ?_; (case hd => rfl); (case hg => rfl); (case hr => first | (go_simp; done) | (go_simp; rfl)); (case hp => exact (Reps.one (show Kd.M (Kd.int .i64) _ _ _ (-2) [.int .i64 (-2)] from rfl) (Reps.none _ _))); intro v112 w8 ho9 hb hg_ hnew_; clear hg_ hnew_; (first | rw [← Ny111.out] at ho9 | (simp only [Int.reduceToNat] at ho9; rw [← Ny111.out] at ho9)); have n0_ := qM (Kd.R_below (by (with_reducible repeat (first | apply Kd.R_alloc | apply Kd.R_drewN | apply Kd.R_drew)); exact HO104.out) hb); have n1_ := qM (Kd.R_below (by (with_reducible repeat (first | apply Kd.R_alloc | apply Kd.R_drewN | apply Kd.R_drew)); exact HO107.out) hb); have n2_ := qM (Kd.R_below (by (with_reducible repeat (first | apply Kd.R_alloc | apply Kd.R_drewN | apply Kd.R_drew)); exact HO110.out) hb); have n3_ := qM (Kd.R_lower (Kd.R_newM (M := fun k_ => (w.heap.size ≤ k_)) ho9 (qZ qF) (fun k_ h_ => h_)) (qZ qF)); have n4_ := qM (qb (g := gb101) qK hb); have n5_ := qM (qP qF hb); clear HO104; clear HO107; clear HO110; clear BK101; clear HB; have HO104 := n0_; have HO107 := n1_; have HO110 := n2_; have HO113 := n3_; have BK101 := n4_; have HB := n5_; clear n0_ n1_ n2_ n3_ n4_ n5_; clear hb ho9; obtain ⟨Ao10, co10, eo10⟩ := Kd.R_slice HO113.out; subst eo10) | ((with_reducible refine gate_dst (N := 6) rfl ?_); refine Kd.R_lit (Kd.int .i64) _ 3 ?hg (N := 6) ?hd (xs := ([(-2), 3, (-2)] : List Int)) (inner := [.int .i64 (-2), .int .i64 3, .int .i64 (-2)]) (ok := fun _ => True) (okp := fun _ => True) ?hr ?hp (fun _ hk => hk) trivial (Below.refl _ _) (Nat.le_refl _) (by simp) ?_; (case hd => rfl); (case hg => rfl); (case hr => first | (go_simp; done) | (go_simp; rfl)); (case hp => exact (Reps.one (show Kd.M (Kd.int .i64) _ _ _ (-2) [.int .i64 (-2)] from rfl) (Reps.one (show Kd.M (Kd.int .i64) _ _ _ 3 [.int .i64 3] from rfl) (Reps.one (show Kd.M (Kd.int .i64) _ _ _ (-2) [.int .i64 (-2)] from rfl) (Reps.none _ _))))); intro v115 w11 ho12 hb hg_ hnew_; clear hg_ hnew_; (first | rw [← Ny114.out] at ho12 | (simp only [Int.reduceToNat] at ho12; rw [← Ny114.out] at ho12)); have n0_ := qM (Kd.R_below (by (with_reducible repeat (first | apply Kd.R_alloc | apply Kd.R_drewN | apply Kd.R_drew)); exact HO104.out) hb); have n1_ := qM (Kd.R_below (by (with_reducible repeat (first | apply Kd.R_alloc | apply Kd.R_drewN | apply Kd.R_drew)); exact HO107.out) hb); have n2_ := qM (Kd.R_below (by (with_reducible repeat (first | apply Kd.R_alloc | apply Kd.R_drewN | apply Kd.R_drew)); exact HO110.out) hb); have n3_ := qM (Kd.R_elder' (by (with_reducible repeat (first | apply Kd.R_alloc | apply Kd.R_drewN | apply Kd.R_drew)); exact HO113.out) (Kd.R_base ho12) hb); have n4_ := qM (Kd.R_lower (Kd.R_new' (Kd.R_newM (M := fun k_ => (w.heap.size ≤ k_)) ho12 (qZ qF) (fun k_ h_ => h_)) (Kd.R_lt (by (with_reducible repeat (first | apply Kd.R_alloc | apply Kd.R_drewN | apply Kd.R_drew)); exact HO113.out))) (qZ qF)); have n5_ := qM (qb (g := gb101) qK hb); have n6_ := qM (qP qF hb); clear HO104; clear HO107; clear HO110; clear HO113; clear BK101; clear HB; have HO104 := n0_; have HO107 := n1_; have HO110 := n2_; have HO113 := n3_; have HO116 := n4_; have BK101 := n5_; have HB := n6_; clear n0_ n1_ n2_ n3_ n4_ n5_ n6_; clear hb ho12; obtain ⟨Ao13, co13, eo13⟩ := Kd.R_slice HO116.out; subst eo13) | ((with_reducible refine gate_dst (N := 8) rfl ?_); refine Kd.R_lit (Kd.int .i64) _ 3 ?hg (N := 8) ?hd (xs := ([2] : List Int)) (inner := [.int .i64 2]) (ok := fun _ => True) (okp := fun _ => True) ?hr ?hp (fun _ hk => hk) trivial (Below.refl _ _) (Nat.le_refl _) (by simp) ?_; (case hd => rfl); (case hg => rfl); (case hr => first | (go_simp; done) | (go_simp; rfl)); (case hp => exact (Reps.one (show Kd.M (Kd.int .i64) _ _ _ 2 [.int .i64 2] from rfl) (Reps.none _ _))); intro v118 w14 ho15 hb hg_ hnew_; clear hg_ hnew_; (first | rw [← Ny117.out] at ho15 | (simp only [Int.reduceToNat] at ho15; rw [← Ny117.out] at ho15)); have n0_ := qM (Kd.R_below (by (with_reducible repeat (first | apply Kd.R_alloc | apply Kd.R_drewN | apply Kd.R_drew)); exact HO104.out) hb); have n1_ := qM (Kd.R_below (by (with_reducible repeat (first | apply Kd.R_alloc | apply Kd.R_drewN | apply Kd.R_drew)); exact HO107.out) hb); have n2_ := qM (Kd.R_below (by (with_reducible repeat (first | apply Kd.R_alloc | apply Kd.R_drewN | apply Kd.R_drew)); exact HO110.out) hb); have n3_ := qM (Kd.R_elder' (by (with_reducible repeat (first | apply Kd.R_alloc | apply Kd.R_drewN | apply Kd.R_drew)); exact HO113.out) (Kd.R_base ho15) hb); have n4_ := qM (Kd.R_elder' (by (with_reducible repeat (first | apply Kd.R_alloc | apply Kd.R_drewN | apply Kd.R_drew)); exact HO116.out) (Kd.R_base ho15) hb); have n5_ := qM (Kd.R_lower (Kd.R_new' (Kd.R_new' (Kd.R_newM (M := fun k_ => (w.heap.size ≤ k_)) ho15 (qZ qF) (fun k_ h_ => h_)) (Kd.R_lt (by (with_reducible repeat (first | apply Kd.R_alloc | apply Kd.R_drewN | apply Kd.R_drew)); exact HO113.out))) (Kd.R_lt (by (with_reducible repeat (first | apply Kd.R_alloc | apply Kd.R_drewN | apply Kd.R_drew)); exact HO116.out))) (qZ qF)); have n6_ := qM (qb (g := gb101) qK hb); have n7_ := qM (qP qF hb); clear HO104; clear HO107; clear HO110; clear HO113; clear HO116; clear BK101; clear HB; have HO104 := n0_; have HO107 := n1_; have HO110 := n2_; have HO113 := n3_; have HO116 := n4_; have HO119 := n5_; have BK101 := n6_; have HB := n7_; clear n0_ n1_ n2_ n3_ n4_ n5_ n6_ n7_; clear hb ho15; obtain ⟨Ao16, co16, eo16⟩ := Kd.R_slice HO119.out; subst eo16) | ((with_reducible refine gate_dst (N := 10) rfl ?_); refine Kd.N_lit k58 _ 58 ?hg (N' := 10) ?hd (xs := ([(⟨0, y111, ([] : List ByteArray), (⟨#[]⟩ : ByteArray), 0⟩ : S58), (⟨1, y114, ([] : List ByteArray), (⟨#[]⟩ : ByteArray), 0⟩ : S58), (⟨1, y117, ([] : List ByteArray), (⟨#[]⟩ : ByteArray), 0⟩ : S58)] : List (S58))) (inner := [.int .i64 0, .slice Ao10 y111.length co10, .slice none 0 0, .string (⟨#[]⟩ : ByteArray), .int .i64 0, .int .i64 1, .slice Ao13 y114.length co13, .slice none 0 0, .string (⟨#[]⟩ : ByteArray), .int .i64 0, .int .i64 1, .slice Ao16 y117.length co16, .slice none 0 0, .string (⟨#[]⟩ : ByteArray), .int .i64 0]) (ok := (fun k_ => (w.heap.size ≤ k_) ∧ some k_ ≠ (v103 : Value).ownBlock ∧ some k_ ≠ (v106 : Value).ownBlock ∧ some k_ ≠ (v109 : Value).ownBlock ∧ k_ ≠ gb101)) (okp := (fun k_ => (w.heap.size ≤ k_) ∧ some k_ ≠ (v103 : Value).ownBlock ∧ some k_ ≠ (v106 : Value).ownBlock ∧ some k_ ≠ (v109 : Value).ownBlock ∧ k_ ≠ gb101)) ?hr ?hp (fun _ hk => hk) ((show ∀ k_, w14.heap.size ≤ k_ → (fun k_ => (w.heap.size ≤ k_) ∧ some k_ ≠ (v103 : Value).ownBlock ∧ some k_ ≠ (v106 : Value).ownBlock ∧ some k_ ≠ (v109 : Value).ownBlock ∧ k_ ≠ gb101) k_ from fun k_ hk => ⟨(Nat.le_trans (qZ qF) hk), Kd.fresh' (Kd.R_lt (by (with_reducible repeat (first | apply Kd.R_alloc | apply Kd.R_drewN | apply Kd.R_drew)); exact HO104.out)) k_ hk, Kd.fresh' (Kd.R_lt (by (with_reducible repeat (first | apply Kd.R_alloc | apply Kd.R_drewN | apply Kd.R_drew)); exact HO107.out)) k_ hk, Kd.fresh' (Kd.R_lt (by (with_reducible repeat (first | apply Kd.R_alloc | apply Kd.R_drewN | apply Kd.R_drew)); exact HO110.out)) k_ hk, Kd.freshB (g := gb101) qK k_ hk⟩) _ (Nat.le_refl _)) (Below.refl _ _) (Nat.le_refl _) (by simp) ?_; (case hd => rfl); (case hg => rfl); (case hr => first | (go_simp; done) | (go_simp; rfl)); (case hp => exact (Reps.c5 (show Kd.FK k58 _ _ (⟨0, y111, ([] : List ByteArray), (⟨#[]⟩ : ByteArray), 0⟩ : S58) [.int .i64 0, .slice Ao10 y111.length co10, .slice none 0 0, .string (⟨#[]⟩ : ByteArray), .int .i64 0] from (k58_mkF _ _ (⟨0, y111, ([] : List ByteArray), (⟨#[]⟩ : ByteArray), 0⟩ : S58) (Kd.R_reads' (Kd.R_mono (ok' := (fun k_ => (w.heap.size ≤ k_) ∧ some k_ ≠ (v103 : Value).ownBlock ∧ some k_ ≠ (v106 : Value).ownBlock ∧ some k_ ≠ (v109 : Value).ownBlock ∧ k_ ≠ gb101)) (Kd.R_types (Kd.R_apart' (Kd.R_apart' (Kd.R_apart' (HO113.out) (Kd.R_typed HO104.out) (by decide)) (Kd.R_typed HO107.out) (by decide)) (Kd.R_typed HO110.out) (by decide)) BK101.out (by decide)) (fun k_ hk => ⟨hk.1.1.1.1.1.1.1, ⟨hk.1.1.1.2, ⟨hk.1.1.2, ⟨hk.1.2, hk.2⟩⟩⟩⟩))).2.1 (Kd.R_F (Kd.R_mono (ok' := (fun k_ => (w.heap.size ≤ k_) ∧ some k_ ≠ (v103 : Value).ownBlock ∧ some k_ ≠ (v106 : Value).ownBlock ∧ some k_ ≠ (v109 : Value).ownBlock ∧ k_ ≠ gb101)) (Kd.R_types (Kd.R_apart' (Kd.R_apart' (Kd.R_apart' (HO113.out) (Kd.R_typed HO104.out) (by decide)) (Kd.R_typed HO107.out) (by decide)) (Kd.R_typed HO110.out) (by decide)) BK101.out (by decide)) (fun k_ hk => ⟨hk.1.1.1.1.1.1.1, ⟨hk.1.1.1.2, ⟨hk.1.1.2, ⟨hk.1.2, hk.2⟩⟩⟩⟩))) (Nat.le_refl _) (Kd.F_nil _ _ _))) (Reps.c5 (show Kd.FK k58 _ _ (⟨1, y114, ([] : List ByteArray), (⟨#[]⟩ : ByteArray), 0⟩ : S58) [.int .i64 1, .slice Ao13 y114.length co13, .slice none 0 0, .string (⟨#[]⟩ : ByteArray), .int .i64 0] from (k58_mkF _ _ (⟨1, y114, ([] : List ByteArray), (⟨#[]⟩ : ByteArray), 0⟩ : S58) (Kd.R_reads' (Kd.R_mono (ok' := (fun k_ => (w.heap.size ≤ k_) ∧ some k_ ≠ (v103 : Value).ownBlock ∧ some k_ ≠ (v106 : Value).ownBlock ∧ some k_ ≠ (v109 : Value).ownBlock ∧ k_ ≠ gb101)) (Kd.R_types (Kd.R_apart' (Kd.R_apart' (Kd.R_apart' (HO116.out) (Kd.R_typed HO104.out) (by decide)) (Kd.R_typed HO107.out) (by decide)) (Kd.R_typed HO110.out) (by decide)) BK101.out (by decide)) (fun k_ hk => ⟨hk.1.1.1.1.1.1.1, ⟨hk.1.1.1.2, ⟨hk.1.1.2, ⟨hk.1.2, hk.2⟩⟩⟩⟩))).2.1 (Kd.R_F (Kd.R_mono (ok' := (fun k_ => (w.heap.size ≤ k_) ∧ some k_ ≠ (v103 : Value).ownBlock ∧ some k_ ≠ (v106 : Value).ownBlock ∧ some k_ ≠ (v109 : Value).ownBlock ∧ k_ ≠ gb101)) (Kd.R_types (Kd.R_apart' (Kd.R_apart' (Kd.R_apart' (HO116.out) (Kd.R_typed HO104.out) (by decide)) (Kd.R_typed HO107.out) (by decide)) (Kd.R_typed HO110.out) (by decide)) BK101.out (by decide)) (fun k_ hk => ⟨hk.1.1.1.1.1.1.1, ⟨hk.1.1.1.2, ⟨hk.1.1.2, ⟨hk.1.2, hk.2⟩⟩⟩⟩))) (Nat.le_refl _) (Kd.F_nil _ _ _))) (Reps.c5 (show Kd.FK k58 _ _ (⟨1, y117, ([] : List ByteArray), (⟨#[]⟩ : ByteArray), 0⟩ : S58) [.int .i64 1, .slice Ao16 y117.length co16, .slice none 0 0, .string (⟨#[]⟩ : ByteArray), .int .i64 0] from (k58_mkF _ _ (⟨1, y117, ([] : List ByteArray), (⟨#[]⟩ : ByteArray), 0⟩ : S58) (Kd.R_reads' (Kd.R_mono (ok' := (fun k_ => (w.heap.size ≤ k_) ∧ some k_ ≠ (v103 : Value).ownBlock ∧ some k_ ≠ (v106 : Value).ownBlock ∧ some k_ ≠ (v109 : Value).ownBlock ∧ k_ ≠ gb101)) (Kd.R_types (Kd.R_apart' (Kd.R_apart' (Kd.R_apart' (HO119.out) (Kd.R_typed HO104.out) (by decide)) (Kd.R_typed HO107.out) (by decide)) (Kd.R_typed HO110.out) (by decide)) BK101.out (by decide)) (fun k_ hk => ⟨hk.1.1.1.1.1.1.1, ⟨hk.1.1.1.2, ⟨hk.1.1.2, ⟨hk.1.2, hk.2⟩⟩⟩⟩))).2.1 (Kd.R_F (Kd.R_mono (ok' := (fun k_ => (w.heap.size ≤ k_) ∧ some k_ ≠ (v103 : Value).ownBlock ∧ some k_ ≠ (v106 : Value).ownBlock ∧ some k_ ≠ (v109 : Value).ownBlock ∧ k_ ≠ gb101)) (Kd.R_types (Kd.R_apart' (Kd.R_apart' (Kd.R_apart' (HO119.out) (Kd.R_typed HO104.out) (by decide)) (Kd.R_typed HO107.out) (by decide)) (Kd.R_typed HO110.out) (by decide)) BK101.out (by decide)) (fun k_ hk => ⟨hk.1.1.1.1.1.1.1, ⟨hk.1.1.1.2, ⟨hk.1.1.2, ⟨hk.1.2, hk.2⟩⟩⟩⟩))) (Nat.le_refl _) (Kd.F_nil _ _ _))) (Reps.none _ _))))); intro v121 w17 ho18 hb hg_ hnew_; clear hg_ hnew_; (first | rw [← Ny120.out] at ho18 | (simp only [Int.reduceToNat] at ho18; rw [← Ny120.out] at ho18)); have n0_ := qM (Kd.R_below (by (with_reducible repeat (first | apply Kd.R_alloc | apply Kd.R_drewN | apply Kd.R_drew)); exact HO104.out) hb); have n1_ := qM (Kd.R_below (by (with_reducible repeat (first | apply Kd.R_alloc | apply Kd.R_drewN | apply Kd.R_drew)); exact HO107.out) hb); have n2_ := qM (Kd.R_below (by (with_reducible repeat (first | apply Kd.R_alloc | apply Kd.R_drewN | apply Kd.R_drew)); exact HO110.out) hb); have n3_ := qM (Kd.N_lower ho18 (qZ qF)); have n4_ := qM (qb (g := gb101) qK hb); have n5_ := qM (qP qF hb); clear HO104; clear HO107; clear HO110; clear BK101; clear HB; clear HO113; clear HO116; clear HO119; have HO104 := n0_; have HO107 := n1_; have HO110 := n2_; have HO122 := n3_; have BK101 := n4_; have HB := n5_; clear n0_ n1_ n2_ n3_ n4_ n5_; clear hb ho18; obtain ⟨Ao19, co19, eo19⟩ := Kd.N_slice HO122.out; subst eo19; obtain ⟨Ao20, co20, eo20⟩ := Kd.R_slice HO110.out; subst eo20; obtain ⟨Ao21, co21, eo21⟩ := Kd.R_slice HO107.out; subst eo21; obtain ⟨Ao22, co22, eo22⟩ := Kd.R_slice HO104.out; subst eo22; obtain ⟨hcz23_0, hcz23_1, hcz23_2, hcz23_3, hcz23_4, hfz23_0, hfz23_1, hfz23_2, hfz23_3, hfz23_4⟩ := bx5 BK101.out))
 refine bodyPost_ret (results_cell_row rfl _ _ gb101 40 #[.slice Ao22 y102.length co22, .slice Ao21 y105.length co21, .slice Ao20 y108.length co20, .slice Ao19 y120.length co19, .slice none 0 0] (0, 0) _ rfl (by (with_reducible repeat (first | refine qn ?_ _ | refine qd ?_ | refine qa ?_ _)); refine blk_put (cs := #[.slice Ao22 y102.length co22, .slice Ao21 y105.length co21, .slice Ao20 y108.length co20, .slice Ao19 y120.length co19, .slice none 0 0]) ?_ 4 _ rfl; (with_reducible repeat (first | refine qn ?_ _ | refine qd ?_ | refine qa ?_ _)); refine blk_put (cs := #[.slice Ao22 y102.length co22, .slice Ao21 y105.length co21, .slice Ao20 y108.length co20, .slice none 0 0, .slice none 0 0]) ?_ 3 _ rfl; (with_reducible repeat (first | refine qn ?_ _ | refine qd ?_ | refine qa ?_ _)); refine blk_put (cs := #[.slice Ao22 y102.length co22, .slice Ao21 y105.length co21, .slice none 0 0, .slice none 0 0, .slice none 0 0]) ?_ 2 _ rfl; (with_reducible repeat (first | refine qn ?_ _ | refine qd ?_ | refine qa ?_ _)); refine blk_put (cs := #[.slice Ao22 y102.length co22, .slice none 0 0, .slice none 0 0, .slice none 0 0, .slice none 0 0]) ?_ 1 _ rfl; (with_reducible repeat (first | refine qn ?_ _ | refine qd ?_ | refine qa ?_ _)); refine blk_put (cs := #[.slice none 0 0, .slice none 0 0, .slice none 0 0, .slice none 0 0, .slice none 0 0]) ?_ 0 _ rfl; (with_reducible repeat (first | refine qn ?_ _ | refine qd ?_ | refine qa ?_ _)); exact BK101.out) Tryd.underlying40 rfl (by kernel_rfl)) rfl ?_
 exact ⟨_, _, _, _, _, qE, by (with_reducible repeat (first | apply Kd.R_alloc | apply Kd.R_drewN | apply Kd.R_drew)); exact Kd.R_mono (Kd.R_far (p := ⟨gb101, 4, none⟩) (Kd.R_far (p := ⟨gb101, 3, none⟩) (Kd.R_far (p := ⟨gb101, 2, none⟩) (Kd.R_far (p := ⟨gb101, 1, none⟩) (Kd.R_far (p := ⟨gb101, 0, none⟩) (Kd.R_types HO104.out BK101.out (by decide)) (fun _ hk => hk.2) (.slice Ao22 y102.length co22)) (fun _ hk => hk.2) (.slice Ao21 y105.length co21)) (fun _ hk => hk.2) (.slice Ao20 y108.length co20)) (fun _ hk => hk.2) (.slice Ao19 y120.length co19)) (fun _ hk => hk.2) (.slice none 0 0)) (fun _ hk => ⟨hk.1.1.1, hk.1.2⟩), by (with_reducible repeat (first | apply Kd.R_alloc | apply Kd.R_drewN | apply Kd.R_drew)); exact Kd.R_mono (Kd.R_far (p := ⟨gb101, 4, none⟩) (Kd.R_far (p := ⟨gb101, 3, none⟩) (Kd.R_far (p := ⟨gb101, 2, none⟩) (Kd.R_far (p := ⟨gb101, 1, none⟩) (Kd.R_far (p := ⟨gb101, 0, none⟩) (Kd.R_types HO107.out BK101.out (by decide)) (fun _ hk => hk.2) (.slice Ao22 y102.length co22)) (fun _ hk => hk.2) (.slice Ao21 y105.length co21)) (fun _ hk => hk.2) (.slice Ao20 y108.length co20)) (fun _ hk => hk.2) (.slice Ao19 y120.length co19)) (fun _ hk => hk.2) (.slice none 0 0)) (fun _ hk => ⟨hk.1.1.1, hk.1.2⟩), by (with_reducible repeat (first | apply Kd.R_alloc | apply Kd.R_drewN | apply Kd.R_drew)); exact Kd.R_mono (Kd.R_far (p := ⟨gb101, 4, none⟩) (Kd.R_far (p := ⟨gb101, 3, none⟩) (Kd.R_far (p := ⟨gb101, 2, none⟩) (Kd.R_far (p := ⟨gb101, 1, none⟩) (Kd.R_far (p := ⟨gb101, 0, none⟩) (Kd.R_types HO110.out BK101.out (by decide)) (fun _ hk => hk.2) (.slice Ao22 y102.length co22)) (fun _ hk => hk.2) (.slice Ao21 y105.length co21)) (fun _ hk => hk.2) (.slice Ao20 y108.length co20)) (fun _ hk => hk.2) (.slice Ao19 y120.length co19)) (fun _ hk => hk.2) (.slice none 0 0)) (fun _ hk => hk.1.1), by (with_reducible repeat (first | apply Kd.N_alloc | apply Kd.N_drewN | apply Kd.N_drew)); exact Kd.N_mono (Kd.N_far (p := ⟨gb101, 4, none⟩) (Kd.N_far (p := ⟨gb101, 3, none⟩) (Kd.N_far (p := ⟨gb101, 2, none⟩) (Kd.N_far (p := ⟨gb101, 1, none⟩) (Kd.N_far (p := ⟨gb101, 0, none⟩) (Kd.N_mono HO122.out (fun k_ hk => (⟨hk, hk.2.2.2.2⟩ : _ ∧ k_ ≠ gb101))) (fun _ hk => hk.2) (.slice Ao22 y102.length co22)) (fun _ hk => hk.2) (.slice Ao21 y105.length co21)) (fun _ hk => hk.2) (.slice Ao20 y108.length co20)) (fun _ hk => hk.2) (.slice Ao19 y120.length co19)) (fun _ hk => hk.2) (.slice none 0 0)) (fun _ hk => ⟨hk.1.1, ⟨hk.1.2.1, ⟨hk.1.2.2.1, ⟨hk.1.2.2.2.1, (by simp [Value.ownBlock])⟩⟩⟩⟩), by first | exact Kd.S_nil _ _ _ _ _ | exact Kd.N_nil _ _ _ _ _ | exact Kd.V_nil _ _ _ _ _ | exact Kd.Q_nil _ _ _ _ _ | exact Kd.R_nil _ _ _ _ _, qF⟩
end Go.Proofs.YtphmgaijkdflnaaDoor.H
end
