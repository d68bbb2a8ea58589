/- A part (4 of 6) of this proof: For every grammar and tree that the guards let in, CstWithin returns true: in a valid tree without errors every leaf except the end has a nonempty text. -/
import Derived.Test.YtphmgaijkdflnaaDoorZw3
section
namespace Go.Proofs.YtphmgaijkdflnaaDoor.H
open Go.RowKit Go.Proofs.YtphmgaijkdflnaaDoorW.PrintWords Go.Proofs.YtphmgaijkdflnaaDoorW.PrintLast Go.Proofs.YtphmgaijkdflnaaDoorW.PrintMore
attribute [local go_sem] max2_int min2_int max_two min_two max_three min_three max_four min_four
set_option linter.unusedVariables false
set_option linter.unusedSimpArgs false
mutual
def arboristref15_Few.j1 : Nat → Int → Int → List ByteArray → List ByteArray → List Int → List (S58) → List (S61) → Option (Bool)
 | 0, _, _, _, _, _, _, _ => none
 | k + 1, x1, x5, x283000, x283001, x283002, x283003, x283004 => arboristref15_Few.l1 k x1 x5 0 x283000 x283001 x283002 x283003 x283004
def arboristref15_Few.l1 : Nat → Int → Int → Int → List ByteArray → List ByteArray → List Int → List (S58) → List (S61) → Option (Bool)
 | 0, _, _, _, _, _, _, _, _ => none
 | k + 1, x1, x5, x7, x283000, x283001, x283002, x283003, x283004 => if x7 < (x283004.length : Int) then (if x7 < 50 then (if 0 ≤ x7 then (arboristref15_Few.l1 k x1 (wrap64 (x5 + (((rd_T61 x283004 x7).f1).length : Int))) (wrap64 (x7 + 1)) x283000 x283001 x283002 x283003 x283004) else (none)) else (if (x283003.length : Int) ≤ x1 then (if (x283000.length : Int) ≤ 60 then (if (x283001.length : Int) ≤ 60 then (if (x283002.length : Int) ≤ 60 then (if (x283004.length : Int) ≤ 40 then (some (decide (x5 ≤ (wrap64 ((wrap64 (8 * x1)) + 40))))) else (some false)) else (some false)) else (some false)) else (some false)) else (some false))) else (if (x283003.length : Int) ≤ x1 then (if (x283000.length : Int) ≤ 60 then (if (x283001.length : Int) ≤ 60 then (if (x283002.length : Int) ≤ 60 then (if (x283004.length : Int) ≤ 40 then (some (decide (x5 ≤ (wrap64 ((wrap64 (8 * x1)) + 40))))) else (some false)) else (some false)) else (some false)) else (some false)) else (some false))
def arboristref15_Few.l0 : Nat → Int → Int → Int → List ByteArray → List ByteArray → List Int → List (S58) → List (S61) → Option (Bool)
 | 0, _, _, _, _, _, _, _, _ => none
 | k + 1, x1, x5, x6, x283000, x283001, x283002, x283003, x283004 => if x6 < (x283003.length : Int) then (if x6 ≤ x1 then (if 0 ≤ x6 then (arboristref15_Few.l0 k x1 (wrap64 (x5 + (wrap64 ((((rd_T58 x283003 x6).f1).length : Int) + (((rd_T58 x283003 x6).f2).length : Int))))) (wrap64 (x6 + 1)) x283000 x283001 x283002 x283003 x283004) else (none)) else (arboristref15_Few.j1 k x1 x5 x283000 x283001 x283002 x283003 x283004)) else (arboristref15_Few.j1 k x1 x5 x283000 x283001 x283002 x283003 x283004)
end
def arboristref15_Few.f (k : Nat) (l0_0 : List ByteArray) (l0_1 : List ByteArray) (l0_2 : List Int) (l0_3 : List (S58)) (l0_4 : List (S61)) (a1 : Int) : Option (Bool) := arboristref15_Few.l0 k a1 0 0 l0_0 l0_1 l0_2 l0_3 l0_4
theorem arboristref15_Few.mono_l : ∀ k, (∀ y0 y1 y2 y3 y4 y5 y6, LeO (arboristref15_Few.j1 k y0 y1 y2 y3 y4 y5 y6) (arboristref15_Few.j1 (k + 1) y0 y1 y2 y3 y4 y5 y6)) ∧ (∀ y0 y1 y2 y3 y4 y5 y6 y7, LeO (arboristref15_Few.l1 k y0 y1 y2 y3 y4 y5 y6 y7) (arboristref15_Few.l1 (k + 1) y0 y1 y2 y3 y4 y5 y6 y7)) ∧ (∀ y0 y1 y2 y3 y4 y5 y6 y7, LeO (arboristref15_Few.l0 k y0 y1 y2 y3 y4 y5 y6 y7) (arboristref15_Few.l0 (k + 1) y0 y1 y2 y3 y4 y5 y6 y7))
 | 0 => ⟨fun _ _ _ _ _ _ _ r h => by simp [arboristref15_Few.j1] at h, fun _ _ _ _ _ _ _ _ r h => by simp [arboristref15_Few.l1] at h, fun _ _ _ _ _ _ _ _ r h => by simp [arboristref15_Few.l0] at h⟩
 | k + 1 => by
  (obtain ⟨ih0, ih1, ih2⟩ := arboristref15_Few.mono_l k); (refine ⟨?_, ?_, ?_⟩)
  ·intro y0 y1 y2 y3 y4 y5 y6
   unfold arboristref15_Few.j1
   repeat' first
   | (with_reducible exact ih0 _ _ _ _ _ _ _)
   | (with_reducible exact ih1 _ _ _ _ _ _ _ _)
   | (with_reducible exact ih2 _ _ _ _ _ _ _ _)
   | (with_reducible exact LeO.refl _)
   | (with_reducible exact LeO.none _)
   | (with_reducible refine LeO.ite ?_ ?_)
   | (with_reducible refine LeO.bind ?_ (fun _ => ?_))
   | exact ih0 _ _ _ _ _ _ _
   | exact ih1 _ _ _ _ _ _ _ _
   | exact ih2 _ _ _ _ _ _ _ _
   | exact LeO.none _
   | refine LeO.ite ?_ ?_
   | refine LeO.bind ?_ (fun _ => ?_)
  ·intro y0 y1 y2 y3 y4 y5 y6 y7
   unfold arboristref15_Few.l1
   repeat' first
   | (with_reducible exact ih0 _ _ _ _ _ _ _)
   | (with_reducible exact ih1 _ _ _ _ _ _ _ _)
   | (with_reducible exact ih2 _ _ _ _ _ _ _ _)
   | (with_reducible exact LeO.refl _)
   | (with_reducible exact LeO.none _)
   | (with_reducible refine LeO.ite ?_ ?_)
   | (with_reducible refine LeO.bind ?_ (fun _ => ?_))
   | exact ih0 _ _ _ _ _ _ _
   | exact ih1 _ _ _ _ _ _ _ _
   | exact ih2 _ _ _ _ _ _ _ _
   | exact LeO.none _
   | refine LeO.ite ?_ ?_
   | refine LeO.bind ?_ (fun _ => ?_)
  ·intro y0 y1 y2 y3 y4 y5 y6 y7
   unfold arboristref15_Few.l0
   repeat' first
   | (with_reducible exact ih0 _ _ _ _ _ _ _)
   | (with_reducible exact ih1 _ _ _ _ _ _ _ _)
   | (with_reducible exact ih2 _ _ _ _ _ _ _ _)
   | (with_reducible exact LeO.refl _)
   | (with_reducible exact LeO.none _)
   | (with_reducible refine LeO.ite ?_ ?_)
   | (with_reducible refine LeO.bind ?_ (fun _ => ?_))
   | exact ih0 _ _ _ _ _ _ _
   | exact ih1 _ _ _ _ _ _ _ _
   | exact ih2 _ _ _ _ _ _ _ _
   | exact LeO.none _
   | refine LeO.ite ?_ ?_
   | refine LeO.bind ?_ (fun _ => ?_)
theorem arboristref15_Few.mono : ∀ a0 a1 a2 a3 a4 a5 k, LeO (arboristref15_Few.f k a0 a1 a2 a3 a4 a5) (arboristref15_Few.f (k + 1) a0 a1 a2 a3 a4 a5) := by
 (intro a0 a1 a2 a3 a4 a5 k); (obtain ⟨ih0, ih1, ih2⟩ := arboristref15_Few.mono_l k); (unfold arboristref15_Few.f)
 repeat' first
   | (with_reducible exact ih0 _ _ _ _ _ _ _)
   | (with_reducible exact ih1 _ _ _ _ _ _ _ _)
   | (with_reducible exact ih2 _ _ _ _ _ _ _ _)
   | (with_reducible exact LeO.refl _)
   | (with_reducible exact LeO.none _)
   | (with_reducible refine LeO.ite ?_ ?_)
   | (with_reducible refine LeO.bind ?_ (fun _ => ?_))
   | exact ih0 _ _ _ _ _ _ _
   | exact ih1 _ _ _ _ _ _ _ _
   | exact ih2 _ _ _ _ _ _ _ _
   | exact LeO.none _
   | refine LeO.ite ?_ ?_
   | refine LeO.bind ?_ (fun _ => ?_)
set_option maxHeartbeats 8000000 in
set_option maxRecDepth 100000 in
theorem arboristref15_Few.calls (k : Nat) (A0_0 : Option Addr) (c0_0 : Nat) (l0_0 : List ByteArray) (A0_1 : Option Addr) (c0_1 : Nat) (l0_1 : List ByteArray) (A0_2 : Option Addr) (c0_2 : Nat) (l0_2 : List Int) (A0_3 : Option Addr) (c0_3 : Nat) (l0_3 : List (S58)) (A0_4 : Option Addr) (c0_4 : Nat) (l0_4 : List (S61)) (a1 : Int) (r : Bool) (w : World) (hr0_0 : Kd.C Kd.string w A0_0 l0_0.length l0_0) (hc0_0 : l0_0.length ≤ c0_0) (hr0_1 : Kd.C Kd.string w A0_1 l0_1.length l0_1) (hc0_1 : l0_1.length ≤ c0_1) (hr0_2 : Kd.C (Kd.int .i64) w A0_2 l0_2.length l0_2) (hc0_2 : l0_2.length ≤ c0_2) (hr0_3 : Kd.C k58 w A0_3 l0_3.length l0_3) (hc0_3 : l0_3.length ≤ c0_3) (hr0_4 : Kd.C k61 w A0_4 l0_4.length l0_4) (hc0_4 : l0_4.length ≤ c0_4) (h : arboristref15_Few.f k l0_0 l0_1 l0_2 l0_3 l0_4 a1 = some r) :
  Calls Tryd.prog 23 #[.agg #[.slice A0_0 l0_0.length c0_0, .slice A0_1 l0_1.length c0_1, .slice A0_2 l0_2.length c0_2, .slice A0_3 l0_3.length c0_3, .slice A0_4 l0_4.length c0_4], .int .i64 a1] w fun e w' => e = .returned (.bool r) ∧ Below w.heap.size w w' := by
 (have hu40 := Tryd.underlying40); (have HR0_0 := qM hr0_0); (have HC0_0 := qM hc0_0); clear hr0_0 hc0_0; (have HR0_1 := qM hr0_1); (have HC0_1 := qM hc0_1); clear hr0_1 hc0_1; (have HR0_2 := qM hr0_2); (have HC0_2 := qM hc0_2); clear hr0_2 hc0_2; (have HR0_3 := qM hr0_3); (have HC0_3 := qM hc0_3); clear hr0_3 hc0_3; (have HR0_4 := qM hr0_4); (have HC0_4 := qM hc0_4); clear hr0_4 hc0_4; (have HB := qM (Below.refl w.heap.size w)); (have H : (arboristref15_Few.l0 k a1 0 0 l0_0 l0_1 l0_2 l0_3 l0_4) = some r := h); clear h; (have HC3 := qM H); clear H; (go_enter Tryd.func23, Tryd.ntmps23)
 go_upto_block 0 with (first | ((with_reducible refine gate_dst (N := 2) rfl ?_); (try (refine gate_guard (by rfl) ?_; dsimp only)); refine box_event ?hg (N := 2) ?hd (cs := #[.slice A0_0 l0_0.length c0_0, .slice A0_1 l0_1.length c0_1, .slice A0_2 l0_2.length c0_2, .slice A0_3 l0_3.length c0_3, .slice A0_4 l0_4.length c0_4]) (t := 40) ?hr ?_; (case hd => rfl); (case hg => rfl); (case hr => first | (go_simp; done) | (go_simp; rfl)); intro gb282 hg w4 hbox hb; have n0_ := qM (qP qF hb); have n1_ := qM (hbox); have n2_ := qM ((by rw [hg]; exact (qZ qF) : w.heap.size ≤ gb282)); have n3_ := qM ((by rw [hg]; exact (qZ qF) : w.heap.size ≤ gb282)); clear HB; have HB := n0_; have BK282 := n1_; have GW282 := n2_; have GE282 := n3_; clear n0_ n1_ n2_ n3_; clear hb hbox hg))
 repeat (go_quiet (first | ((with_reducible refine gate_dst (N := 2) rfl ?_); (try (refine gate_guard (by rfl) ?_; dsimp only)); refine box_event ?hg (N := 2) ?hd (cs := #[.slice A0_0 l0_0.length c0_0, .slice A0_1 l0_1.length c0_1, .slice A0_2 l0_2.length c0_2, .slice A0_3 l0_3.length c0_3, .slice A0_4 l0_4.length c0_4]) (t := 40) ?hr ?_; (case hd => rfl); (case hg => rfl); (case hr => first | (go_simp; done) | (go_simp; rfl)); intro gb282 hg w4 hbox hb; have n0_ := qM (qP qF hb); have n1_ := qM (hbox); have n2_ := qM ((by rw [hg]; exact (qZ qF) : w.heap.size ≤ gb282)); have n3_ := qM ((by rw [hg]; exact (qZ qF) : w.heap.size ≤ gb282)); clear HB; have HB := n0_; have BK282 := n1_; have GW282 := n2_; have GE282 := n3_; clear n0_ n1_ n2_ n3_; clear hb hbox hg)); go_upto_block 0 with (first | ((with_reducible refine gate_dst (N := 2) rfl ?_); (try (refine gate_guard (by rfl) ?_; dsimp only)); refine box_event ?hg (N := 2) ?hd (cs := #[.slice A0_0 l0_0.length c0_0, .slice A0_1 l0_1.length c0_1, .slice A0_2 l0_2.length c0_2, .slice A0_3 l0_3.length c0_3, .slice A0_4 l0_4.length c0_4]) (t := 40) ?hr ?_; (case hd => rfl); (case hg => rfl); (case hr => first | (go_simp; done) | (go_simp; rfl)); intro gb282 hg w4 hbox hb; have n0_ := qM (qP qF hb); have n1_ := qM (hbox); have n2_ := qM ((by rw [hg]; exact (qZ qF) : w.heap.size ≤ gb282)); have n3_ := qM ((by rw [hg]; exact (qZ qF) : w.heap.size ≤ gb282)); clear HB; have HB := n0_; have BK282 := n1_; have GW282 := n2_; have GE282 := n3_; clear n0_ n1_ n2_ n3_; clear hb hbox hg)))
 ((try simp only [Act.put, List.setIfInBounds_toArray, List.set_cons_zero, List.set_cons_succ])); (go_cut [5] (fun v5 wc => ∃ (kq : Nat) (x5_2 : Int), v5 = .int .i64 x5_2 ∧ Aside0 (arboristref15_Few.j1 kq a1 x5_2 l0_0 l0_1 l0_2 l0_3 l0_4 = some r) ∧ Aside0 (kq ≤ k) ∧ Aside0 (wc.heap[gb282]? = some (.cells #[(.slice A0_0 l0_0.length c0_0), (.slice A0_1 l0_1.length c0_1), (.slice A0_2 l0_2.length c0_2), (.slice A0_3 l0_3.length c0_3), (.slice A0_4 l0_4.length c0_4)] 40 (0, 0))) ∧ Aside0 (Below w.heap.size w wc)))
 case first =>
  (have H := HC3.out); clear HC3; (have H' := qM H); clear H; go_wp2; (repeat (go_quiet (fail); try go_wp2)); (go_loopg [5, 6] k (fun kq v5 v6 w' => ∃ (x5_1 : Int) (x6_1 : Int), v5 = .int .i64 x5_1 ∧ v6 = .int .i64 x6_1 ∧ Aside0 (arboristref15_Few.l0 kq a1 x5_1 x6_1 l0_0 l0_1 l0_2 l0_3 l0_4 = some r) ∧ Aside0 (kq ≤ k) ∧ Aside0 (w'.heap[gb282]? = some (.cells #[(.slice A0_0 l0_0.length c0_0), (.slice A0_1 l0_1.length c0_1), (.slice A0_2 l0_2.length c0_2), (.slice A0_3 l0_3.length c0_3), (.slice A0_4 l0_4.length c0_4)] 40 (0, 0))) ∧ Aside0 (Below w.heap.size w w')))
  case atStart => exact ⟨(0), (0), qV, qV, H', ⟨Nat.le_refl _⟩, ⟨qK⟩, ⟨qF⟩⟩
  case round =>
   (clear H'); (try clear c2); (try clear p2); (obtain ⟨x5_1, x6_1, rfl, rfl, HA, HK1, BK282, HB⟩ := hrel)
   cases gk with
   | zero => exact absurd HA.out (by simp [arboristref15_Few.l0])
   | succ k1 =>
    (have H := HA.out); clear HA; (simp only [arboristref15_Few.l0] at H); (by_cases c5 : x6_1 < (l0_3.length : Int))
    ·rw [if_pos c5] at H
     (have c5b0 : decide (x6_1 < (l0_3.length : Int)) = true := decide_eq_true c5); clear c5; ((first | rw [c5b0] | (simp only [i64_w, i32_w]; rw [c5b0]) | skip)); (by_cases c6 : x6_1 ≤ a1)
     ·rw [if_pos c6] at H
      (have c6b0 : decide (x6_1 ≤ a1) = true := decide_eq_true c6); clear c6; (by_cases c7 : 0 ≤ x6_1)
      ·rw [if_pos c7] at H
       (have c7b0 : decide (0 ≤ x6_1) = true := decide_eq_true c7); clear c7; (have H' := qM H); clear H; (obtain ⟨hcz8_0, hcz8_1, hcz8_2, hcz8_3, hcz8_4, hfz8_0, hfz8_1, hfz8_2, hfz8_3, hfz8_4⟩ := bx5 BK282.out); (have p283 : 0 ≤ (x6_1 : Int) := qo qX); (have q283 : x6_1 < (l0_3.length : Int) := qo qX); (obtain ⟨ad283, A283_1, c283_1, A283_2, c283_2, e283, hx283_0, hx283_1, hx283_2, hx283_3, hx283_4, hl283_1, hi283_1, hl283_2, hi283_2⟩ := at_T58 HR0_3.out x6_1 p283 q283)
       cases e283
       (replace hx283_0 := (HB.out.cell (qB w _ hx283_0)).trans hx283_0); (replace hx283_1 := (HB.out.cell (qB w _ hx283_1)).trans hx283_1); (replace hx283_2 := (HB.out.cell (qB w _ hx283_2)).trans hx283_2); (replace hx283_3 := (HB.out.cell (qB w _ hx283_3)).trans hx283_3); (replace hx283_4 := (HB.out.cell (qB w _ hx283_4)).trans hx283_4); (have HR283_1 := qM hi283_1); (have HC283_1 := qM hl283_1); clear hi283_1 hl283_1; (have HR283_2 := qM hi283_2); (have HC283_2 := qM hl283_2); clear hi283_2 hl283_2; (replace p283 := eq_true p283); (replace q283 := eq_true q283); (have p284 : 0 ≤ (x6_1 : Int) := qo qX); (have q284 : x6_1 < (l0_3.length : Int) := qo qX); (obtain ⟨ad284, A284_1, c284_1, A284_2, c284_2, e284, hx284_0, hx284_1, hx284_2, hx284_3, hx284_4, hl284_1, hi284_1, hl284_2, hi284_2⟩ := at_T58 HR0_3.out x6_1 p284 q284); (obtain rfl : ad283 = ad284 := (by injection e284)); (replace hx284_0 := (HB.out.cell (qB w _ hx284_0)).trans hx284_0); (replace hx284_1 := (HB.out.cell (qB w _ hx284_1)).trans hx284_1); (replace hx284_2 := (HB.out.cell (qB w _ hx284_2)).trans hx284_2); (replace hx284_3 := (HB.out.cell (qB w _ hx284_3)).trans hx284_3); (replace hx284_4 := (HB.out.cell (qB w _ hx284_4)).trans hx284_4); (have HR284_1 := qM hi284_1); (have HC284_1 := qM hl284_1); clear hi284_1 hl284_1; (have HR284_2 := qM hi284_2); (have HC284_2 := qM hl284_2); clear hi284_2 hl284_2; (replace p284 := eq_true p284); (replace q284 := eq_true q284); (have ea_ := Option.some.inj (hx283_1.symm.trans hx284_1)); (injection ea_ with ea_ en_ ec_); subst ea_; subst ec_; clear en_; (have ea_ := Option.some.inj (hx283_2.symm.trans hx284_2)); (injection ea_ with ea_ en_ ec_); subst ea_; subst ec_; clear en_; go_wp2; (repeat (go_quiet (fail); try go_wp2)); (go_roundg k1)
       case measure => have := HK1.out; omega
       case rel => exact ⟨(wrap64 (x5_1 + (wrap64 ((((rd_T58 l0_3 x6_1).f1).length : Int) + (((rd_T58 l0_3 x6_1).f2).length : Int))))), (wrap64 (x6_1 + 1)), qV, qV, H', ⟨by have := HK1.out; omega⟩, ⟨qK⟩, ⟨qF⟩⟩
      ·rw [if_neg c7] at H
       exact absurd H (by simp)
     ·rw [if_neg c6] at H
      (have c6b0 : decide (x6_1 ≤ a1) = false := decide_eq_false c6); clear c6; (have H' := qM H); clear H; (obtain ⟨hcz9_0, hcz9_1, hcz9_2, hcz9_3, hcz9_4, hfz9_0, hfz9_1, hfz9_2, hfz9_3, hfz9_4⟩ := bx5 BK282.out); go_wp2; (repeat (go_quiet (fail); try go_wp2)); go_meet
      case rel => exact ⟨_, (x5_1), qV, H', ⟨by have := HK1.out; first | omega | exact Nat.le_refl _⟩, ⟨qK⟩, ⟨qF⟩⟩
    ·rw [if_neg c5] at H
     (have c5b0 : decide (x6_1 < (l0_3.length : Int)) = false := decide_eq_false c5); clear c5; ((first | rw [c5b0] | (simp only [i64_w, i32_w]; rw [c5b0]) | skip)); (have H' := qM H); clear H; (obtain ⟨hcz10_0, hcz10_1, hcz10_2, hcz10_3, hcz10_4, hfz10_0, hfz10_1, hfz10_2, hfz10_3, hfz10_4⟩ := bx5 BK282.out); go_wp2; (repeat (go_quiet (fail); try go_wp2)); go_meet
     case rel => exact ⟨_, (x5_1), qV, H', ⟨by have := HK1.out; first | omega | exact Nat.le_refl _⟩, ⟨qK⟩, ⟨qF⟩⟩
 case rest =>
  clear HC3; (try clear c2); (try clear p2); (try clear q2); (try clear hx2); (try clear c5); (try clear c5b0); (try clear c6); (try clear c6b0); (try clear p6); (try clear c7); (try clear c7b0); (try clear hcz10_0 hcz10_1 hcz10_2 hcz10_3 hcz10_4); (try clear hcz8_0 hcz8_1 hcz8_2 hcz8_3 hcz8_4); (try clear hcz9_0 hcz9_1 hcz9_2 hcz9_3 hcz9_4); (try clear hfz10_0 hfz10_1 hfz10_2 hfz10_3 hfz10_4); (try clear hfz8_0 hfz8_1 hfz8_2 hfz8_3 hfz8_4); (try clear hfz9_0 hfz9_1 hfz9_2 hfz9_3 hfz9_4); (try clear hx283_0 hx283_1 hx283_2 hx283_3 hx283_4); (try clear hx284_0 hx284_1 hx284_2 hx284_3 hx284_4); (try clear p2); (try clear p283); (try clear p284); (try clear q283); (try clear q284); (obtain ⟨kq, x5_2, rfl, HA, HJ2, BK282, HB⟩ := hcut)
  cases kq with
  | zero => exact absurd HA.out (by simp [arboristref15_Few.j1])
  | succ kj2 =>
   (have H := HA.out); clear HA; (simp only [arboristref15_Few.j1] at H); (have H' := qM H); clear H; go_wp2; (repeat (go_quiet (fail); try go_wp2)); (go_loopg [5, 7] kj2 (fun kq v5 v7 w' => ∃ (x5_2 : Int) (x7_2 : Int), v5 = .int .i64 x5_2 ∧ v7 = .int .i64 x7_2 ∧ Aside0 (arboristref15_Few.l1 kq a1 x5_2 x7_2 l0_0 l0_1 l0_2 l0_3 l0_4 = some r) ∧ Aside0 (kq ≤ kj2) ∧ Aside0 (w'.heap[gb282]? = some (.cells #[(.slice A0_0 l0_0.length c0_0), (.slice A0_1 l0_1.length c0_1), (.slice A0_2 l0_2.length c0_2), (.slice A0_3 l0_3.length c0_3), (.slice A0_4 l0_4.length c0_4)] 40 (0, 0))) ∧ Aside0 (Below w.heap.size w w')))
   case atStart => exact ⟨(x5_2), (0), qV, qV, H', ⟨Nat.le_refl _⟩, ⟨qK⟩, ⟨qF⟩⟩
   case round =>
    (clear H'); (try clear c2); (try clear p2); (try clear q2); (try clear hx2); (try clear c5); (try clear c5b0); (try clear c6); (try clear c6b0); (try clear p6); (try clear c7); (try clear c7b0); (try clear hcz10_0 hcz10_1 hcz10_2 hcz10_3 hcz10_4); (try clear hcz8_0 hcz8_1 hcz8_2 hcz8_3 hcz8_4); (try clear hcz9_0 hcz9_1 hcz9_2 hcz9_3 hcz9_4); (try clear hfz10_0 hfz10_1 hfz10_2 hfz10_3 hfz10_4); (try clear hfz8_0 hfz8_1 hfz8_2 hfz8_3 hfz8_4); (try clear hfz9_0 hfz9_1 hfz9_2 hfz9_3 hfz9_4); (try clear hx283_0 hx283_1 hx283_2 hx283_3 hx283_4); (try clear hx284_0 hx284_1 hx284_2 hx284_3 hx284_4); (try clear p2); (try clear p283); (try clear p284); (try clear p6); (try clear q2); (try clear q283); (try clear q284); (obtain ⟨x5_2, x7_2, rfl, rfl, HA, HK2, BK282, HB⟩ := hrel)
    cases gk with
    | zero => exact absurd HA.out (by simp [arboristref15_Few.l1])
    | succ k2 =>
     (have H := HA.out); clear HA; (simp only [arboristref15_Few.l1] at H); (by_cases c11 : x7_2 < (l0_4.length : Int))
     ·rw [if_pos c11] at H
      (have c11b0 : decide (x7_2 < (l0_4.length : Int)) = true := decide_eq_true c11); clear c11; (by_cases c12 : x7_2 < 50)
      ·rw [if_pos c12] at H
       (have c12b0 : decide (x7_2 < 50) = true := decide_eq_true c12); clear c12; (by_cases c13 : 0 ≤ x7_2)
       ·rw [if_pos c13] at H
        (have c13b0 : decide (0 ≤ x7_2) = true := decide_eq_true c13); clear c13; (have H' := qM H); clear H; (obtain ⟨hcz14_0, hcz14_1, hcz14_2, hcz14_3, hcz14_4, hfz14_0, hfz14_1, hfz14_2, hfz14_3, hfz14_4⟩ := bx5 BK282.out); (have p285 : 0 ≤ (x7_2 : Int) := qo qX); (have q285 : x7_2 < (l0_4.length : Int) := qo qX); (obtain ⟨ad285, A285_1, c285_1, e285, hx285_0, hx285_1, hl285_1, hi285_1⟩ := at_T61 HR0_4.out x7_2 p285 q285)
        cases e285
        (replace hx285_0 := (HB.out.cell (qB w _ hx285_0)).trans hx285_0); (replace hx285_1 := (HB.out.cell (qB w _ hx285_1)).trans hx285_1); (have HR285_1 := qM hi285_1); (have HC285_1 := qM hl285_1); clear hi285_1 hl285_1; (replace p285 := eq_true p285); (replace q285 := eq_true q285); go_wp2; (repeat (go_quiet (fail); try go_wp2)); (go_roundg k2)
        case measure => have := HJ2.out; have := HK2.out; omega
        case rel => exact ⟨(wrap64 (x5_2 + (((rd_T61 l0_4 x7_2).f1).length : Int))), (wrap64 (x7_2 + 1)), qV, qV, H', ⟨by have := HJ2.out; have := HK2.out; omega⟩, ⟨qK⟩, ⟨qF⟩⟩
       ·rw [if_neg c13] at H
        exact absurd H (by simp)
      ·rw [if_neg c12] at H
       (have c12b0 : decide (x7_2 < 50) = false := decide_eq_false c12); clear c12; (by_cases c15 : (l0_3.length : Int) ≤ a1)
       ·rw [if_pos c15] at H
        (have c15b0 : decide ((l0_3.length : Int) ≤ a1) = true := decide_eq_true c15); clear c15; (by_cases c16 : (l0_0.length : Int) ≤ 60)
        ·rw [if_pos c16] at H
         (have c16b0 : decide ((l0_0.length : Int) ≤ 60) = true := decide_eq_true c16); (have c16b1 : decide (l0_0.length ≤ 60) = true := decide_eq_true (by omega)); clear c16; (by_cases c17 : (l0_1.length : Int) ≤ 60)
         ·rw [if_pos c17] at H
          (have c17b0 : decide ((l0_1.length : Int) ≤ 60) = true := decide_eq_true c17); (have c17b1 : decide (l0_1.length ≤ 60) = true := decide_eq_true (by omega)); clear c17; (by_cases c18 : (l0_2.length : Int) ≤ 60)
          ·rw [if_pos c18] at H
           (have c18b0 : decide ((l0_2.length : Int) ≤ 60) = true := decide_eq_true c18); (have c18b1 : decide (l0_2.length ≤ 60) = true := decide_eq_true (by omega)); clear c18; (by_cases c19 : (l0_4.length : Int) ≤ 40)
           ·rw [if_pos c19] at H
            (have c19b0 : decide ((l0_4.length : Int) ≤ 40) = true := decide_eq_true c19); (have c19b1 : decide (l0_4.length ≤ 40) = true := decide_eq_true (by omega)); clear c19; (obtain rfl := Option.some.inj H); (obtain ⟨hcz20_0, hcz20_1, hcz20_2, hcz20_3, hcz20_4, hfz20_0, hfz20_1, hfz20_2, hfz20_3, hfz20_4⟩ := bx5 BK282.out); go_wp2; (repeat (go_quiet (fail); try go_wp2)); (go_ret); (exact ⟨qE, qF⟩)
           ·rw [if_neg c19] at H
            (have c19b0 : decide ((l0_4.length : Int) ≤ 40) = false := decide_eq_false c19); (have c19b1 : decide (l0_4.length ≤ 40) = false := decide_eq_false (by omega)); clear c19; (obtain rfl := Option.some.inj H); (obtain ⟨hcz21_0, hcz21_1, hcz21_2, hcz21_3, hcz21_4, hfz21_0, hfz21_1, hfz21_2, hfz21_3, hfz21_4⟩ := bx5 BK282.out); go_wp2; (repeat (go_quiet (fail); try go_wp2)); (go_ret); (exact ⟨qE, qF⟩)
          ·rw [if_neg c18] at H
           (have c18b0 : decide ((l0_2.length : Int) ≤ 60) = false := decide_eq_false c18); (have c18b1 : decide (l0_2.length ≤ 60) = false := decide_eq_false (by omega)); clear c18; (obtain rfl := Option.some.inj H); (obtain ⟨hcz22_0, hcz22_1, hcz22_2, hcz22_3, hcz22_4, hfz22_0, hfz22_1, hfz22_2, hfz22_3, hfz22_4⟩ := bx5 BK282.out); go_wp2; (repeat (go_quiet (fail); try go_wp2)); (go_ret); (exact ⟨qE, qF⟩)
         ·rw [if_neg c17] at H
          (have c17b0 : decide ((l0_1.length : Int) ≤ 60) = false := decide_eq_false c17); (have c17b1 : decide (l0_1.length ≤ 60) = false := decide_eq_false (by omega)); clear c17; (obtain rfl := Option.some.inj H); (obtain ⟨hcz23_0, hcz23_1, hcz23_2, hcz23_3, hcz23_4, hfz23_0, hfz23_1, hfz23_2, hfz23_3, hfz23_4⟩ := bx5 BK282.out); go_wp2; (repeat (go_quiet (fail); try go_wp2)); (go_ret); (exact ⟨qE, qF⟩)
        ·rw [if_neg c16] at H
         (have c16b0 : decide ((l0_0.length : Int) ≤ 60) = false := decide_eq_false c16); (have c16b1 : decide (l0_0.length ≤ 60) = false := decide_eq_false (by omega)); clear c16; (obtain rfl := Option.some.inj H); (obtain ⟨hcz24_0, hcz24_1, hcz24_2, hcz24_3, hcz24_4, hfz24_0, hfz24_1, hfz24_2, hfz24_3, hfz24_4⟩ := bx5 BK282.out); go_wp2; (repeat (go_quiet (fail); try go_wp2)); (go_ret); (exact ⟨qE, qF⟩)
       ·rw [if_neg c15] at H
        (have c15b0 : decide ((l0_3.length : Int) ≤ a1) = false := decide_eq_false c15); clear c15; (obtain rfl := Option.some.inj H); (obtain ⟨hcz25_0, hcz25_1, hcz25_2, hcz25_3, hcz25_4, hfz25_0, hfz25_1, hfz25_2, hfz25_3, hfz25_4⟩ := bx5 BK282.out); go_wp2; (repeat (go_quiet (fail); try go_wp2)); (go_ret); (exact ⟨qE, qF⟩)
     ·rw [if_neg c11] at H
      (have c11b0 : decide (x7_2 < (l0_4.length : Int)) = false := decide_eq_false c11); clear c11; (by_cases c26 : (l0_3.length : Int) ≤ a1)
      ·rw [if_pos c26] at H
       (have c26b0 : decide ((l0_3.length : Int) ≤ a1) = true := decide_eq_true c26); clear c26; (by_cases c27 : (l0_0.length : Int) ≤ 60)
       ·rw [if_pos c27] at H
        (have c27b0 : decide ((l0_0.length : Int) ≤ 60) = true := decide_eq_true c27); (have c27b1 : decide (l0_0.length ≤ 60) = true := decide_eq_true (by omega)); clear c27; (by_cases c28 : (l0_1.length : Int) ≤ 60)
        ·rw [if_pos c28] at H
         (have c28b0 : decide ((l0_1.length : Int) ≤ 60) = true := decide_eq_true c28); (have c28b1 : decide (l0_1.length ≤ 60) = true := decide_eq_true (by omega)); clear c28; (by_cases c29 : (l0_2.length : Int) ≤ 60)
         ·rw [if_pos c29] at H
          (have c29b0 : decide ((l0_2.length : Int) ≤ 60) = true := decide_eq_true c29); (have c29b1 : decide (l0_2.length ≤ 60) = true := decide_eq_true (by omega)); clear c29; (by_cases c30 : (l0_4.length : Int) ≤ 40)
          ·rw [if_pos c30] at H
           (have c30b0 : decide ((l0_4.length : Int) ≤ 40) = true := decide_eq_true c30); (have c30b1 : decide (l0_4.length ≤ 40) = true := decide_eq_true (by omega)); clear c30; (obtain rfl := Option.some.inj H); (obtain ⟨hcz31_0, hcz31_1, hcz31_2, hcz31_3, hcz31_4, hfz31_0, hfz31_1, hfz31_2, hfz31_3, hfz31_4⟩ := bx5 BK282.out); go_wp2; (repeat (go_quiet (fail); try go_wp2)); (go_ret); (exact ⟨qE, qF⟩)
          ·rw [if_neg c30] at H
           (have c30b0 : decide ((l0_4.length : Int) ≤ 40) = false := decide_eq_false c30); (have c30b1 : decide (l0_4.length ≤ 40) = false := decide_eq_false (by omega)); clear c30; (obtain rfl := Option.some.inj H); (obtain ⟨hcz32_0, hcz32_1, hcz32_2, hcz32_3, hcz32_4, hfz32_0, hfz32_1, hfz32_2, hfz32_3, hfz32_4⟩ := bx5 BK282.out); go_wp2; (repeat (go_quiet (fail); try go_wp2)); (go_ret); (exact ⟨qE, qF⟩)
         ·rw [if_neg c29] at H
          (have c29b0 : decide ((l0_2.length : Int) ≤ 60) = false := decide_eq_false c29); (have c29b1 : decide (l0_2.length ≤ 60) = false := decide_eq_false (by omega)); clear c29; (obtain rfl := Option.some.inj H); (obtain ⟨hcz33_0, hcz33_1, hcz33_2, hcz33_3, hcz33_4, hfz33_0, hfz33_1, hfz33_2, hfz33_3, hfz33_4⟩ := bx5 BK282.out); go_wp2; (repeat (go_quiet (fail); try go_wp2)); (go_ret); (exact ⟨qE, qF⟩)
        ·rw [if_neg c28] at H
         (have c28b0 : decide ((l0_1.length : Int) ≤ 60) = false := decide_eq_false c28); (have c28b1 : decide (l0_1.length ≤ 60) = false := decide_eq_false (by omega)); clear c28; (obtain rfl := Option.some.inj H); (obtain ⟨hcz34_0, hcz34_1, hcz34_2, hcz34_3, hcz34_4, hfz34_0, hfz34_1, hfz34_2, hfz34_3, hfz34_4⟩ := bx5 BK282.out); go_wp2; (repeat (go_quiet (fail); try go_wp2)); (go_ret); (exact ⟨qE, qF⟩)
       ·rw [if_neg c27] at H
        (have c27b0 : decide ((l0_0.length : Int) ≤ 60) = false := decide_eq_false c27); (have c27b1 : decide (l0_0.length ≤ 60) = false := decide_eq_false (by omega)); clear c27; (obtain rfl := Option.some.inj H); (obtain ⟨hcz35_0, hcz35_1, hcz35_2, hcz35_3, hcz35_4, hfz35_0, hfz35_1, hfz35_2, hfz35_3, hfz35_4⟩ := bx5 BK282.out); go_wp2; (repeat (go_quiet (fail); try go_wp2)); (go_ret); (exact ⟨qE, qF⟩)
      ·rw [if_neg c26] at H
       (have c26b0 : decide ((l0_3.length : Int) ≤ a1) = false := decide_eq_false c26); clear c26; (obtain rfl := Option.some.inj H); (obtain ⟨hcz36_0, hcz36_1, hcz36_2, hcz36_3, hcz36_4, hfz36_0, hfz36_1, hfz36_2, hfz36_3, hfz36_4⟩ := bx5 BK282.out); go_wp2; (repeat (go_quiet (fail); try go_wp2)); (go_ret); (exact ⟨qE, qF⟩)
end Go.Proofs.YtphmgaijkdflnaaDoor.H
end
section
namespace Go.Proofs.YtphmgaijkdflnaaDoor.H
open Go.RowKit Go.Proofs.YtphmgaijkdflnaaDoorW.PrintWords Go.Proofs.YtphmgaijkdflnaaDoorW.PrintLast Go.Proofs.YtphmgaijkdflnaaDoorW.PrintMore
set_option linter.unusedVariables false
set_option linter.unusedSimpArgs false
def sumR : List S58 → Nat
  | [] => 0
  | x :: r => x.f1.length + x.f2.length + sumR r
def sumL : List S61 → Nat
  | [] => 0
  | x :: r => x.f1.length + sumL r
structure Small (l0 l1 : List ByteArray) (l2 : List Int) (l3 : List S58) (l4 : List S61) : Prop where
  h0 : l0.length ≤ 60
  h1 : l1.length ≤ 60
  h2 : l2.length ≤ 60
  h3 : l3.length ≤ 30
  h4 : l4.length ≤ 40
  hs : sumR l3 + sumL l4 ≤ 280
variable (l0 l1 : List ByteArray) (l2 : List Int) (l3 : List S58) (l4 : List S61)
theorem drop_cons {α : Type} {l : List α} {i : Nat} {x : α} {r : List α} (h : l.drop i = x :: r) : i < l.length ∧ l.drop (i + 1) = r ∧ ∀ d, l.getD i d = x := by
  have hi : i < l.length := by
    rcases Nat.lt_or_ge i l.length with q | q
    · exact q
    · rw [List.drop_of_length_le q] at h; cases h
  refine ⟨hi, ?_, fun d => ?_⟩
  · rw [List.drop_eq_getElem_cons hi] at h; injection h
  · rw [List.drop_eq_getElem_cons hi] at h
    injection h with h1 h2
    rw [List.getD_eq_getElem?_getD, List.getElem?_eq_getElem hi, h1]; rfl
theorem drop_nil {α : Type} {l : List α} {i : Nat} (h : l.drop i = []) : l.length ≤ i := by simpa using h
theorem few_end (n : Int) : ∃ v, (if (l3.length : Int) ≤ 30 then (if (l0.length : Int) ≤ 60 then (if (l1.length : Int) ≤ 60 then (if (l2.length : Int) ≤ 60 then (if (l4.length : Int) ≤ 40 then (some (decide (n ≤ (wrap64 ((wrap64 (8 * 30)) + 40))))) else (some false)) else (some false)) else (some false)) else (some false)) else (some false)) = some v ∧ (v = true → l0.length ≤ 60 ∧ l1.length ≤ 60 ∧ l2.length ≤ 60 ∧ l3.length ≤ 30 ∧ l4.length ≤ 40 ∧ n ≤ 280) := by
  have e : wrap64 ((wrap64 (8 * 30)) + 40) = 280 := by kernel_rfl
  rw [e]
  repeat' split
  · exact ⟨_, rfl, fun h => by simp at h; omega⟩
  all_goals exact ⟨_, rfl, fun h => by cases h⟩
theorem few_l1 (hl4 : ∀ x ∈ l4, ok61 x) : ∀ (rest : List S61) (j : Nat) (n : Int), l4.drop j = rest → j ≤ 50 → 0 ≤ n → n ≤ 9007199254740992 + j * 35184372088832 →
    ∃ k v, arboristref15_Few.l1 k 30 n (j : Int) l0 l1 l2 l3 l4 = some v ∧ (v = true → l0.length ≤ 60 ∧ l1.length ≤ 60 ∧ l2.length ≤ 60 ∧ l3.length ≤ 30 ∧ l4.length ≤ 40 ∧ n + sumL rest ≤ 280) := by
  intro rest
  induction rest with
  | nil =>
    intro j n hd hj hn hn2
    have := drop_nil hd
    obtain ⟨v, hv, hp⟩ := few_end l0 l1 l2 l3 l4 n
    refine ⟨1, v, ?_, fun h => by have := hp h; simp [sumL]; omega⟩
    simp only [arboristref15_Few.l1]
    rw [if_neg (by omega)]
    exact hv
  | cons x r ih =>
    intro j n hd hj hn hn2
    obtain ⟨hi, hr, hx⟩ := drop_cons hd
    by_cases h50 : j < 50
    · have hxo := (ok61_iff x).1 (hl4 x (by rw [← hx ⟨0, []⟩, List.getD_eq_getElem?_getD, List.getElem?_eq_getElem hi]; exact List.getElem_mem hi))
      have hlen : x.f1.length ≤ 17592186044416 := by have := hxo.2.1; unfold reachBytes at this; omega
      have hw : wrap64 (n + (x.f1.length : Int)) = n + (x.f1.length : Int) := wrap_id (by omega) (by omega)
      obtain ⟨k, v, hv, hp⟩ := ih (j + 1) (n + x.f1.length) hr (by omega) (by omega) (by push_cast; omega)
      refine ⟨k + 1, v, ?_, fun h => by have := hp h; simp [sumL]; omega⟩
      simp only [arboristref15_Few.l1]
      rw [if_pos (by omega), if_pos (by omega), if_pos (by omega)]
      have e1 : (rd_T61 l4 (j : Int)) = x := by unfold rd_T61; simpa using hx _
      rw [e1, hw, show wrap64 ((j : Int) + 1) = ((j + 1 : Nat) : Int) from by rw [wrap_id (by omega) (by omega)]; push_cast; rfl]
      exact hv
    · obtain rfl : j = 50 := by omega
      obtain ⟨v, hv, hp⟩ := few_end l0 l1 l2 l3 l4 n
      refine ⟨1, v, ?_, fun h => by have := hp h; omega⟩
      simp only [arboristref15_Few.l1]
      rw [if_pos (by omega), if_neg (by omega)]
      exact hv
theorem few_l0 (hl3 : ∀ x ∈ l3, ok58 x) (hl4 : ∀ x ∈ l4, ok61 x) : ∀ (rest : List S58) (j : Nat) (n : Int), l3.drop j = rest → j ≤ 31 → 0 ≤ n → n ≤ j * 140737488355328 →
    ∃ k v, arboristref15_Few.l0 k 30 n (j : Int) l0 l1 l2 l3 l4 = some v ∧ (v = true → l0.length ≤ 60 ∧ l1.length ≤ 60 ∧ l2.length ≤ 60 ∧ l3.length ≤ 30 ∧ l4.length ≤ 40 ∧ n + sumR rest + sumL l4 ≤ 280) := by
  intro rest
  induction rest with
  | nil =>
    intro j n hd hj hn hn2
    have := drop_nil hd
    obtain ⟨k, v, hv, hp⟩ := few_l1 l0 l1 l2 l3 l4 hl4 l4 0 n rfl (by omega) hn (by omega)
    refine ⟨k + 2, v, ?_, fun h => by have := hp h; simp [sumR]; omega⟩
    simp only [arboristref15_Few.l0]
    rw [if_neg (by omega)]
    simp only [arboristref15_Few.j1]
    exact hv
  | cons x r ih =>
    intro j n hd hj hn hn2
    obtain ⟨hi, hr, hx⟩ := drop_cons hd
    by_cases h50 : j ≤ 30
    · have hxo := (ok58_iff x).1 (hl3 x (by rw [← hx ⟨0, [], [], ⟨#[]⟩, 0⟩, List.getD_eq_getElem?_getD, List.getElem?_eq_getElem hi]; exact List.getElem_mem hi))
      have hlen : x.f1.length ≤ 17592186044416 := by have := hxo.2.1.1; unfold reachBytes at this; omega
      have hlen2 : x.f2.length ≤ 17592186044416 := by have := hxo.2.2.1.1; unfold reachBytes at this; omega
      have hw1 : wrap64 ((x.f1.length : Int) + (x.f2.length : Int)) = (x.f1.length : Int) + (x.f2.length : Int) := wrap_id (by omega) (by omega)
      have hw : wrap64 (n + ((x.f1.length : Int) + (x.f2.length : Int))) = n + ((x.f1.length + x.f2.length : Nat) : Int) := by rw [wrap_id (by omega) (by omega)]; push_cast; rfl
      obtain ⟨k, v, hv, hp⟩ := ih (j + 1) (n + ((x.f1.length + x.f2.length : Nat) : Int)) hr (by omega) (by omega) (by push_cast; omega)
      refine ⟨k + 1, v, ?_, fun h => by have := hp h; simp [sumR]; omega⟩
      simp only [arboristref15_Few.l0]
      rw [if_pos (by omega), if_pos (by omega), if_pos (by omega)]
      have e1 : (rd_T58 l3 (j : Int)) = x := by unfold rd_T58; simpa using hx _
      rw [e1, hw1, hw, show wrap64 ((j : Int) + 1) = ((j + 1 : Nat) : Int) from by rw [wrap_id (by omega) (by omega)]; push_cast; rfl]
      exact hv
    · obtain rfl : j = 31 := by omega
      obtain ⟨k, v, hv, hp⟩ := few_l1 l0 l1 l2 l3 l4 hl4 l4 0 n rfl (by omega) hn (by omega)
      refine ⟨k + 2, v, ?_, fun h => by have := hp h; omega⟩
      simp only [arboristref15_Few.l0]
      rw [if_pos (by omega), if_neg (by omega)]
      simp only [arboristref15_Few.j1]
      exact hv
theorem few_ends (x : S40) (hx : ok40 x) : ∃ k v, arboristref15_Few.f k x.f0 x.f1 x.f2 x.f3 x.f4 30 = some v ∧ (v = true → Small x.f0 x.f1 x.f2 x.f3 x.f4) := by
  have h := (ok40_iff x).1 hx
  obtain ⟨k, v, hv, hp⟩ := few_l0 x.f0 x.f1 x.f2 x.f3 x.f4 h.2.2.2.1.2 h.2.2.2.2.2 x.f3 0 0 rfl (by omega) (by omega) (by omega)
  refine ⟨k, v, hv, fun ht => ?_⟩
  have := hp ht
  exact ⟨this.1, this.2.1, this.2.2.1, this.2.2.2.1, this.2.2.2.2.1, by omega⟩
end Go.Proofs.YtphmgaijkdflnaaDoor.H
end
section
namespace Go.Proofs.YtphmgaijkdflnaaDoor.H
open Go.RowKit Go.Proofs.YtphmgaijkdflnaaDoorW.PrintWords Go.Proofs.YtphmgaijkdflnaaDoorW.PrintLast Go.Proofs.YtphmgaijkdflnaaDoorW.PrintMore
set_option linter.unusedVariables false
set_option linter.unusedSimpArgs false
def badO (k : Int) : Bool := decide (k < 0) || decide (k > 5)
def sumF : List S58 → Nat
  | [] => 0
  | x :: r => x.f1.length + sumF r
section
variable (l0 l1 : List ByteArray) (l2 : List Int) (l3 : List S58) (l4 : List S61)
def countsS : Bool := decide (2 ≤ l0.length ∧ l0.length ≤ 256) && (decide (1 ≤ l1.length ∧ l1.length ≤ 512) && (decide (l2.length = l1.length) && (!(l2.any badO) && (decide (1 ≤ l3.length ∧ l3.length ≤ 1024) && (decide (l4.length ≤ 32) && decide (sumF l3 ≤ 8192))))))
def thereS (s : Int) : Bool := decide (s < l0.length) && decide (-(l1.length : Int) ≤ s)
def symBad (s : Int) : Bool := !(thereS l0 l1 s) || (decide (-1 ≤ s) && decide (s ≤ 1))
def startOf (f0 : Int) (b : Bool) : List Int → Bool
  | [s] => decide (f0 = 0) && (decide (s < -1) && (thereS l0 l1 s && !b))
  | _ => false
def startS : List S58 → Bool
  | [] => false
  | x :: r => startOf l0 l1 x.f0 (r.any (fun y => decide (y.f0 = 0))) x.f1
def ruleS (x : S58) (ahead : Int) : Int :=
  if ¬ (0 ≤ x.f0 ∧ x.f0 ≤ (l1.length : Int) - 1) ∨ x.f0 < ahead ∨ 32 < x.f1.length then 22 else if x.f1.any (symBad l0 l1) = true then 21 else if x.f2.length ≠ 0 ∧ x.f2.length ≠ x.f1.length then 25 else if ¬ (0 ≤ x.f4 ∧ x.f4 ≤ (l4.length : Int)) then 24 else 0
def rulesS : Int → List S58 → Int
  | _, [] => 0
  | ahead, x :: r => if ruleS l0 l1 l4 x ahead = 0 then rulesS x.f0 r else ruleS l0 l1 l4 x ahead
def rightS : Int :=
  if countsS l0 l1 l2 l3 l4 = false then 9 else if (l0.Nodup ∧ l1.Nodup) then (if startS l0 l1 l3 = false then 23 else if rulesS l0 l1 l4 0 l3 = 0 then levelsGo l0.length (fun _ => false) l4 else rulesS l0 l1 l4 0 l3) else 8
end
theorem within_f (a b c : Int) : grammar_within.f a b c = some (decide (b ≤ a ∧ a ≤ c)) := by
  unfold grammar_within.f
  by_cases h : a ≥ b
  · rw [if_pos h]; simp [show b ≤ a from h]
  · rw [if_neg h]; simp [show ¬ b ≤ a from h]
theorem next_i {i : Nat} (h : i < 281474976710656) : wrap64 ((i : Int) + 1) = ((i + 1 : Nat) : Int) := by rw [wrap_id (by omega) (by omega)]; push_cast; rfl
theorem idx_counts (l : List Int) (hl : l.length ≤ 140737488355328) : ∀ (rest : List Int) (i : Nat), l.drop i = rest → ∃ k r, slices_IndexFunc_grammar_counts_1.l0 k l (l.length : Int) (i : Int) = some r ∧ decide (r ≥ 0) = rest.any badO := by
  intro rest
  induction rest with
  | nil =>
    intro i hd
    have := drop_nil hd
    refine ⟨1, -1, ?_, by simp⟩
    simp only [slices_IndexFunc_grammar_counts_1.l0]
    rw [if_neg (by omega)]
  | cons x r ih =>
    intro i hd
    obtain ⟨hi, hr, hx⟩ := drop_cons hd
    have e1 : rd l (i : Int) = x := by unfold rd; simpa using hx _
    have e3 : grammar_counts_1.f x = some (badO x) := by
      unfold grammar_counts_1.f badO
      by_cases h : x < 0 <;> simp [h]
    cases hb : badO x with
    | true =>
      refine ⟨1, i, ?_, by simp [hb]⟩
      simp only [slices_IndexFunc_grammar_counts_1.l0]
      rw [if_pos (by omega), if_pos (by omega), if_pos (by omega), e1, e3, hb]
      rfl
    | false =>
      obtain ⟨k, q, hk, hq⟩ := ih (i + 1) hr
      refine ⟨k + 1, q, ?_, by simp [hb, hq]⟩
      simp only [slices_IndexFunc_grammar_counts_1.l0]
      rw [if_pos (by omega), if_pos (by omega), if_pos (by omega), e1, e3, hb]
      simp only [Option.bind_some, Bool.false_eq_true, if_false]
      rw [next_i (by omega), hk]
theorem idx_start (l : List S58) (hl : l.length ≤ 140737488355328) : ∀ (rest : List S58) (i : Nat), l.drop i = rest → ∃ k r, slices_IndexFunc_grammar_start_1.l0 k l (l.length : Int) (i : Int) = some r ∧ decide (r ≥ 0) = rest.any (fun y => decide (y.f0 = 0)) := by
  intro rest
  induction rest with
  | nil =>
    intro i hd
    have := drop_nil hd
    refine ⟨1, -1, ?_, by simp⟩
    simp only [slices_IndexFunc_grammar_start_1.l0]
    rw [if_neg (by omega)]
  | cons x r ih =>
    intro i hd
    obtain ⟨hi, hr, hx⟩ := drop_cons hd
    have e1 : rd_T58 l (i : Int) = x := by unfold rd_T58; simpa using hx _
    have e3 : grammar_start_1.f x.f0 x.f1 x.f2 x.f3 x.f4 = some (decide (x.f0 = 0)) := by
      unfold grammar_start_1.f
      by_cases h : x.f0 = 0 <;> simp [h]
    cases hb : decide (x.f0 = 0) with
    | true =>
      refine ⟨1, i, ?_, by simp [hb]⟩
      simp only [slices_IndexFunc_grammar_start_1.l0]
      rw [if_pos (by omega), if_pos (by omega), if_pos (by omega), e1, e3, hb]
      rfl
    | false =>
      obtain ⟨k, q, hk, hq⟩ := ih (i + 1) hr
      refine ⟨k + 1, q, ?_, by simp [hb, hq]⟩
      simp only [slices_IndexFunc_grammar_start_1.l0]
      rw [if_pos (by omega), if_pos (by omega), if_pos (by omega), e1, e3, hb]
      simp only [Option.bind_some, Bool.false_eq_true, if_false]
      rw [next_i (by omega), hk]
section
variable {l0 l1 : List ByteArray} {l2 : List Int} {l3 : List S58} {l4 : List S61}
theorem there_f (h1 : l1.length ≤ 140737488355328) (s : Int) : grammar_there.f l0 l1 l2 l3 l4 s = some (thereS l0 l1 s) := by
  unfold grammar_there.f thereS
  rw [wrap_id (by omega) (by omega)]
  by_cases h : s < (l0.length : Int) <;> simp [h]
theorem cap_f (h1 : l1.length ≤ 140737488355328) (s : Int) : grammar_rule_1_cap.f s l0 l1 l2 l3 l4 = some (symBad l0 l1 s) := by
  unfold grammar_rule_1_cap.f symBad
  rw [there_f h1]
  simp only [Option.bind_some]
  cases thereS l0 l1 s with
  | false => simp
  | true =>
    by_cases h : s ≥ -1
    · rw [if_pos rfl, if_pos h]; simp [show -1 ≤ s from h]
    · rw [if_pos rfl, if_neg h]; simp [show ¬ -1 ≤ s from h]
theorem idx_rule (h1 : l1.length ≤ 140737488355328) (l : List Int) (hl : l.length ≤ 140737488355328) : ∀ (rest : List Int) (i : Nat), l.drop i = rest → ∃ k r, slices_IndexFunc_grammar_rule_1.l0 k l (l.length : Int) (i : Int) l0 l1 l2 l3 l4 = some r ∧ decide (r ≥ 0) = rest.any (symBad l0 l1) := by
  intro rest
  induction rest with
  | nil =>
    intro i hd
    have := drop_nil hd
    refine ⟨1, -1, ?_, by simp⟩
    simp only [slices_IndexFunc_grammar_rule_1.l0]
    rw [if_neg (by omega)]
  | cons x r ih =>
    intro i hd
    obtain ⟨hi, hr, hx⟩ := drop_cons hd
    have e1 : rd l (i : Int) = x := by unfold rd; simpa using hx _
    cases hb : symBad l0 l1 x with
    | true =>
      refine ⟨1, i, ?_, by simp [hb]⟩
      simp only [slices_IndexFunc_grammar_rule_1.l0]
      rw [if_pos (by omega), if_pos (by omega), if_pos (by omega), e1, cap_f h1, hb]
      rfl
    | false =>
      obtain ⟨k, q, hk, hq⟩ := ih (i + 1) hr
      refine ⟨k + 1, q, ?_, by simp [hb, hq]⟩
      simp only [slices_IndexFunc_grammar_rule_1.l0]
      rw [if_pos (by omega), if_pos (by omega), if_pos (by omega), e1, cap_f h1, hb]
      simp only [Option.bind_some, Bool.false_eq_true, if_false]
      rw [next_i (by omega), hk]
theorem counts_l0 (hl2 : l2.length ≤ 140737488355328) (hl3 : l3.length ≤ 1100) (ho3 : ∀ x ∈ l3, ok58 x) : ∀ (rest : List S58) (i : Nat) (n : Nat), l3.drop i = rest → n ≤ i * 17592186044416 → sumF l3 = n + sumF rest →
    ∃ k, grammar_counts.l0 k (n : Int) l3 (l3.length : Int) (i : Int) l0 l1 l2 l3 l4 = some (countsS l0 l1 l2 l3 l4) := by
  intro rest
  induction rest with
  | nil =>
    intro i n hd hn hs
    have := drop_nil hd
    obtain ⟨k, q, hk, hq⟩ := idx_counts l2 hl2 l2 0 rfl
    refine ⟨k + 1, ?_⟩
    simp only [grammar_counts.l0]
    rw [if_neg (by omega)]
    have e : slices_ContainsFunc_grammar_counts_1.f k l2 = some (l2.any badO) := by
      unfold slices_ContainsFunc_grammar_counts_1.f slices_IndexFunc_grammar_counts_1.f
      rw [show (0 : Int) = ((0 : Nat) : Int) from rfl, hk, ← hq]; rfl
    simp only [within_f, e, Option.bind_some, countsS, sumF, Nat.add_zero] at *
    have d1 : decide ((2 : Int) ≤ (l0.length : Int) ∧ (l0.length : Int) ≤ 256) = decide (2 ≤ l0.length ∧ l0.length ≤ 256) := by congr 1; apply propext; omega
    have d2 : decide ((1 : Int) ≤ (l1.length : Int) ∧ (l1.length : Int) ≤ 512) = decide (1 ≤ l1.length ∧ l1.length ≤ 512) := by congr 1; apply propext; omega
    have d3 : decide ((1 : Int) ≤ (l3.length : Int) ∧ (l3.length : Int) ≤ 1024) = decide (1 ≤ l3.length ∧ l3.length ≤ 1024) := by congr 1; apply propext; omega
    have d4 : decide ((n : Int) ≤ 8192) = decide (n ≤ 8192) := by congr 1; apply propext; omega
    rw [d1, d2, d3, d4, hs]
    cases decide (2 ≤ l0.length ∧ l0.length ≤ 256) with
    | false => rfl
    | true =>
    cases decide (1 ≤ l1.length ∧ l1.length ≤ 512) with
    | false => rfl
    | true =>
    simp only [if_true, Bool.true_and]
    by_cases h3 : l2.length = l1.length
    · rw [if_pos (by omega), decide_eq_true h3]
      cases l2.any badO with
      | true => rfl
      | false =>
      cases decide (1 ≤ l3.length ∧ l3.length ≤ 1024) with
      | false => rfl
      | true =>
      simp only [Bool.false_eq_true, if_false, if_true, Bool.not_false, Bool.true_and]
      by_cases h4 : l4.length ≤ 32
      · rw [if_pos (by omega), decide_eq_true h4]; rfl
      · rw [if_neg (by omega), decide_eq_false h4]; rfl
    · rw [if_neg (by omega), decide_eq_false h3]; rfl
  | cons x r ih =>
    intro i n hd hn hs
    obtain ⟨hi, hr, hx⟩ := drop_cons hd
    have e1 : rd_T58 l3 (i : Int) = x := by unfold rd_T58; simpa using hx _
    have hxo := (ok58_iff x).1 (ho3 x (by rw [← hx ⟨0, [], [], ⟨#[]⟩, 0⟩, List.getD_eq_getElem?_getD, List.getElem?_eq_getElem hi]; exact List.getElem_mem hi))
    have hlen : x.f1.length ≤ 17592186044416 := by have := hxo.2.1.1; unfold reachBytes at this; omega
    obtain ⟨k, hk⟩ := ih (i + 1) (n + x.f1.length) hr (by omega) (by rw [hs]; simp only [sumF]; omega)
    refine ⟨k + 1, ?_⟩
    simp only [grammar_counts.l0]
    rw [if_pos (by omega), if_pos (by omega), if_pos (by omega), e1, next_i (by omega), show wrap64 ((n : Int) + (x.f1.length : Int)) = ((n + x.f1.length : Nat) : Int) from by rw [wrap_id (by omega) (by omega)]; push_cast; rfl, hk]
theorem start_ends (h0 : 1 ≤ l3.length) (h1 : l1.length ≤ 140737488355328) (hl3 : l3.length ≤ 1100) : ∃ k, grammar_start.f k l0 l1 l2 l3 l4 = some (startS l0 l1 l3) := by
  cases l3 with
  | nil => simp at h0
  | cons x r =>
    obtain ⟨k, q, hk, hq⟩ := idx_start r (by simp at hl3; omega) r 0 rfl
    refine ⟨k, ?_⟩
    have e : slices_ContainsFunc_grammar_start_1.f k r = some (r.any (fun y => decide (y.f0 = 0))) := by
      unfold slices_ContainsFunc_grammar_start_1.f slices_IndexFunc_grammar_start_1.f
      rw [show slices_IndexFunc_grammar_start_1.l0 k r (r.length : Int) 0 = some q from hk, ← hq]; rfl
    unfold grammar_start.f
    simp only [startS]
    rw [show rd_T58 (x :: r) 0 = x from rfl, if_pos (by simp only [List.length_cons]; omega)]
    rcases hx1 : x.f1 with _ | ⟨s, _ | ⟨s2, t⟩⟩
    · by_cases h : x.f0 = 0 <;> simp [h, startOf]
    · by_cases h : x.f0 = 0
      · rw [if_pos h, if_pos (by simp), if_pos (by simp)]
        simp only [show rd [s] 0 = s from rfl, startOf, decide_eq_true h, Bool.true_and]
        by_cases hs : s ≥ -1
        · rw [if_pos hs, decide_eq_false (by omega)]; rfl
        · rw [if_neg hs, decide_eq_true (by omega), there_f h1]
          simp only [Option.bind_some, Bool.true_and]
          cases thereS l0 l1 s with
          | false => rfl
          | true => rw [if_pos rfl, if_pos (by simp only [List.length_cons]; omega), List.drop_one, List.tail_cons, e]; rfl
      · rw [if_neg h]; simp [startOf, h]
    · by_cases h : x.f0 = 0
      · rw [if_pos h, if_neg (by simp; omega)]; rfl
      · rw [if_neg h]; rfl
theorem rule_ends (h1 : l1.length ≤ 140737488355328) (x : S58) (hx : ok58 x) (ahead : Int) : ∃ k, grammar_rule.f k l0 l1 l2 l3 l4 x.f0 x.f1 x.f2 x.f3 x.f4 ahead = some (ruleS l0 l1 l4 x ahead) := by
  have hxo := (ok58_iff x).1 hx
  have hlen : x.f1.length ≤ 17592186044416 := by have := hxo.2.1.1; unfold reachBytes at this; omega
  obtain ⟨k, q, hk, hq⟩ := idx_rule (l0 := l0) (l2 := l2) (l3 := l3) (l4 := l4) h1 x.f1 (by omega) x.f1 0 rfl
  have e : ∀ m, k ≤ m → slices_ContainsFunc_grammar_rule_1.f m x.f1 l0 l1 l2 l3 l4 = some (x.f1.any (symBad l0 l1)) := by
    have e0 : slices_ContainsFunc_grammar_rule_1.f k x.f1 l0 l1 l2 l3 l4 = some (x.f1.any (symBad l0 l1)) := by
      unfold slices_ContainsFunc_grammar_rule_1.f slices_IndexFunc_grammar_rule_1.f
      rw [show (0 : Int) = ((0 : Nat) : Int) from rfl, hk, ← hq]; rfl
    exact fun m hm => up (fun k => slices_ContainsFunc_grammar_rule_1.mono _ _ _ _ _ _ k) hm e0
  refine ⟨k + 2, ?_⟩
  unfold grammar_rule.f ruleS
  rw [within_f, wrap_id (by omega) (by omega)]
  simp only [Option.bind_some]
  by_cases h0 : 0 ≤ x.f0 ∧ x.f0 ≤ (l1.length : Int) - 1
  · rw [decide_eq_true h0, if_pos rfl]
    by_cases ha : x.f0 < ahead
    · rw [if_pos ha, if_pos (.inr (.inl ha))]; simp only [grammar_rule.j0]; rfl
    · rw [if_neg ha]
      simp only [grammar_rule.j0]
      by_cases hn : 32 < x.f1.length
      · rw [decide_eq_true (show (x.f1.length : Int) > 32 by omega), if_pos rfl, if_pos (Or.inr (Or.inr hn))]
      · rw [decide_eq_false (show ¬ (x.f1.length : Int) > 32 by omega), if_neg (by simp), if_neg (show ¬ (¬ (0 ≤ x.f0 ∧ x.f0 ≤ (l1.length : Int) - 1) ∨ x.f0 < ahead ∨ 32 < x.f1.length) by rintro (h | h | h); exact h h0; exact ha h; exact hn h), e (k + 1) (by omega)]
        simp only [Option.bind_some]
        cases x.f1.any (symBad l0 l1) with
        | true => rfl
        | false =>
          simp only [Bool.false_eq_true, if_false]
          have hj : ∀ b : Bool, grammar_rule.j1 (k + 1) b l0 l1 l2 l3 l4 x.f0 x.f1 x.f2 x.f3 x.f4 = some (if b = true then 25 else if ¬ (0 ≤ x.f4 ∧ x.f4 ≤ (l4.length : Int)) then 24 else 0) := by
            intro b
            simp only [grammar_rule.j1, within_f, Option.bind_some]
            cases b with
            | true => rfl
            | false =>
              simp only [Bool.false_eq_true, if_false]
              by_cases h4 : 0 ≤ x.f4 ∧ x.f4 ≤ (l4.length : Int)
              · rw [decide_eq_true h4, if_pos rfl, if_neg (fun h => h h4)]
              · rw [decide_eq_false h4, if_neg (by simp), if_pos h4]
          rw [hj, hj]
          by_cases hf : x.f2.length = 0
          · simp [hf]
          · by_cases hg : x.f2.length = x.f1.length
            · have hf' : x.f1.length ≠ 0 := by omega
              simp [hg]
            · have hb : ((x.f2.length : Int) != (x.f1.length : Int)) = true := by simp; omega
              rw [if_neg (show ¬ ((x.f2.length : Int) = 0) by omega), hb, if_pos rfl, if_pos (show x.f2.length ≠ 0 ∧ x.f2.length ≠ x.f1.length from ⟨hf, hg⟩)]
  · rw [decide_eq_false h0, if_neg (by simp), if_pos (.inl h0)]; simp only [grammar_rule.j0]; rfl
theorem rules_ends (h1 : l1.length ≤ 140737488355328) : ∀ (l : List S58) (ahead : Int), (∀ x ∈ l, ok58 x) → ∃ k, rulesGo k l0 l1 l2 l3 l4 ahead l = some (rulesS l0 l1 l4 ahead l) := by
  intro l
  induction l with
  | nil => exact fun _ _ => ⟨0, rfl⟩
  | cons x r ih =>
    intro ahead ho
    obtain ⟨k1, e1⟩ := rule_ends (l0 := l0) (l2 := l2) (l3 := l3) (l4 := l4) h1 x (ho x (List.mem_cons_self ..)) ahead
    obtain ⟨k2, e2⟩ := ih x.f0 (fun y hy => ho y (List.mem_cons_of_mem _ hy))
    refine ⟨k1 + k2, ?_⟩
    simp only [rulesGo, rulesS]
    rw [up (fun k => grammar_rule.mono _ _ _ _ _ _ _ _ _ _ _ k) (Nat.le_add_right k1 k2) e1]
    simp only [Option.bind_some]
    split
    · exact up (fun k => rulesGo.mono _ _ _ _ _ k _ _) (Nat.le_add_left k2 k1) e2
    · rfl
theorem twice_f (l : List ByteArray) (hl : l.length * 16 ≤ reachBytes ∧ ∀ y ∈ l, y.size ≤ reachBytes) : grammar_twice.f l = some (!decide l.Nodup) := by
  unfold grammar_twice.f
  rw [if_pos]
  simp only [grammar_twice.ok, Bool.and_eq_true, List.all_eq_true, decide_eq_true_eq]
  have := hl.1
  unfold reachBytes at this
  refine ⟨fun s hs => ?_, by omega⟩
  have := hl.2 s hs
  unfold reachBytes at this
  exact this
theorem right_ends (hx : ok40 ⟨l0, l1, l2, l3, l4⟩) (hl3 : l3.length ≤ 1100) (hl4 : ∀ x ∈ l4, x.f1.length ≤ 1000000) : ∃ k, grammar_Right.f k l0 l1 l2 l3 l4 = some (rightS l0 l1 l2 l3 l4) := by
  have h := (ok40_iff _).1 hx
  simp only at h
  obtain ⟨g0, g1, g2, g3, g4⟩ := h
  have b1 : l1.length ≤ 140737488355328 := by have := g1.1; unfold reachBytes at this; omega
  have b2 : l2.length ≤ 140737488355328 := by have := g2.1; unfold reachBytes at this; omega
  obtain ⟨k1, e1⟩ := counts_l0 (l0 := l0) (l1 := l1) (l2 := l2) (l4 := l4) b2 hl3 g3.2 l3 0 0 rfl (by omega) (by omega)
  have e1' : grammar_counts.f k1 l0 l1 l2 l3 l4 = some (countsS l0 l1 l2 l3 l4) := by unfold grammar_counts.f; exact e1
  by_cases hc : countsS l0 l1 l2 l3 l4 = true
  · have hc' := hc
    simp only [countsS, Bool.and_eq_true, decide_eq_true_eq] at hc'
    obtain ⟨c0, c1, c2, c3, c4, c5, c6⟩ := hc'
    obtain ⟨k2, e2⟩ := start_ends (l0 := l0) (l1 := l1) (l2 := l2) (l4 := l4) c4.1 b1 hl3
    obtain ⟨k3, e3⟩ := rules_ends (l0 := l0) (l2 := l2) (l3 := l3) (l4 := l4) b1 l3 0 g3.2
    refine ⟨k1 + k2 + k3, ?_⟩
    unfold grammar_Right.f rightS
    rw [up (fun k => grammar_counts.mono _ _ _ _ _ k) (by omega : k1 ≤ k1 + k2 + k3) e1', hc]
    simp only [Option.bind_some, if_true, Bool.true_eq_false, if_false]
    rw [twice_f l0 g0, twice_f l1 g1]
    simp only [Option.bind_some]
    by_cases n0 : l0.Nodup
    · rw [decide_eq_true n0]
      simp only [Bool.not_true, Bool.false_eq_true, if_false]
      by_cases n1 : l1.Nodup
      · rw [decide_eq_true n1, if_pos (show l0.Nodup ∧ l1.Nodup from ⟨n0, n1⟩)]
        simp only [Bool.not_true, Bool.false_eq_true, if_false]
        rw [up (fun k => grammar_start.mono _ _ _ _ _ k) (by omega : k2 ≤ k1 + k2 + k3) e2]
        simp only [Option.bind_some]
        cases startS l0 l1 l3 with
        | false => rfl
        | true =>
          simp only [if_true, Bool.true_eq_false, if_false]
          rw [up (fun k => rulesGo.mono _ _ _ _ _ k _ _) (by omega : k3 ≤ k1 + k2 + k3) e3]
          simp only [Option.bind_some]
          split
          · rw [if_pos]
            simp only [grammar_Right.ok, Bool.and_eq_true, decide_eq_true_eq, List.all_eq_true]
            refine ⟨⟨by omega, by omega⟩, fun x hx => ⟨hl4 x hx, fun t ht => ?_⟩⟩
            exact wf_i64 (((ok61_iff x).1 (g4.2 x hx)).2.2 t ht)
          · rfl
      · rw [decide_eq_false n1, if_neg (fun h : l0.Nodup ∧ l1.Nodup => n1 h.2)]
        simp only [Bool.not_false, if_true]
    · rw [decide_eq_false n0, if_neg (fun h : l0.Nodup ∧ l1.Nodup => n0 h.1)]
      simp only [Bool.not_false, if_true]
  · have hc := Bool.eq_false_iff.mpr hc
    refine ⟨k1, ?_⟩
    unfold grammar_Right.f rightS
    rw [e1', hc]
    rfl
end
end Go.Proofs.YtphmgaijkdflnaaDoor.H
end
