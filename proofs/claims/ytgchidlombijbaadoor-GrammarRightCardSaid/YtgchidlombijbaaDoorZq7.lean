import Derived.Test.YtgchidlombijbaaDoorRows
import Derived.Test.YtgchidlombijbaaDoorTie
import Derived.Test.YtgchidlombijbaaDoorCards
import Derived.Deep.DeepHandedRow
import Derived.ProofKit
import Derived.SizedLaws
import Derived.OpenShut
import Derived.ShutString
import Derived.ChangeOld
import Derived.Below
import Derived.SevenTiedAt
import Derived.WalkKit
import Derived.Stop.LaidErr
import Derived.Test.YtgchidlombijbaaDoorZq6
section
namespace Go.Proofs.YtgchidlombijbaaDoor.H
open Go.RowKit Go.Proofs.YtgchidlombijbaaDoorW.PrintWords Go.Proofs.YtgchidlombijbaaDoorW.PrintLast Go.Proofs.YtgchidlombijbaaDoorW.PrintMore
attribute [local go_sem] max2_int min2_int max_two min_two max_three min_three max_four min_four
set_option linter.unusedVariables false
set_option linter.unusedSimpArgs false
def arboristlaw15_GrammarRight.j0 : Nat → Bool → List ByteArray → List ByteArray → List Int → List (S43) → List (S46) → Option (Bool)
 | 0, _, _, _, _, _, _ => none
 | k + 1, x10, x285000, x285001, x285002, x285003, x285004 => if x10 = true then ((arboristlaw15_knows.f k).bind fun t287 => (some t287)) else ((grammar_Right.f k x285000 x285001 x285002 x285003 x285004).bind fun t288 => ((arboristref15_Right.f k x285000 x285001 x285002 x285003 x285004).bind fun t289 => (if t288 = t289 then ((arboristlaw15_knows.f k).bind fun t290 => (some t290)) else (some false))))
def arboristlaw15_GrammarRight.f (k : Nat) (l0_0 : List ByteArray) (l0_1 : List ByteArray) (l0_2 : List Int) (l0_3 : List (S43)) (l0_4 : List (S46)) : Option (Bool) := (arboristref15_Few.f k l0_0 l0_1 l0_2 l0_3 l0_4 60).bind fun t285 => (if t285 = true then (arboristlaw15_GrammarRight.j0 k false l0_0 l0_1 l0_2 l0_3 l0_4) else ((arboristlaw15_many.f k l0_0 l0_1 l0_2 l0_3 l0_4).bind fun t286 => (arboristlaw15_GrammarRight.j0 k (!t286) l0_0 l0_1 l0_2 l0_3 l0_4)))
theorem arboristlaw15_GrammarRight.mono_l : ∀ k, (∀ y0 y1 y2 y3 y4 y5, LeO (arboristlaw15_GrammarRight.j0 k y0 y1 y2 y3 y4 y5) (arboristlaw15_GrammarRight.j0 (k + 1) y0 y1 y2 y3 y4 y5))
 | 0 => fun _ _ _ _ _ _ r h => by simp [arboristlaw15_GrammarRight.j0] at h
 | k + 1 => by
  have ih0 := arboristlaw15_GrammarRight.mono_l k
  ·intro y0 y1 y2 y3 y4 y5
   unfold arboristlaw15_GrammarRight.j0
   repeat' first
   | (with_reducible exact ih0 _ _ _ _ _ _)
   | (with_reducible exact arboristlaw15_knows.mono _)
   | (with_reducible exact arboristlaw15_many.mono _ _ _ _ _ _)
   | (with_reducible exact arboristref15_Few.mono _ _ _ _ _ _ _)
   | (with_reducible exact arboristref15_Right.mono _ _ _ _ _ _)
   | (with_reducible exact grammar_Right.mono _ _ _ _ _ _)
   | (with_reducible exact LeO.refl _)
   | (with_reducible exact LeO.none _)
   | (with_reducible refine LeO.ite ?_ ?_)
   | (with_reducible refine LeO.bind ?_ (fun _ => ?_))
   | exact ih0 _ _ _ _ _ _
   | exact arboristlaw15_knows.mono _
   | exact arboristlaw15_many.mono _ _ _ _ _ _
   | exact arboristref15_Few.mono _ _ _ _ _ _ _
   | exact arboristref15_Right.mono _ _ _ _ _ _
   | exact grammar_Right.mono _ _ _ _ _ _
   | exact LeO.none _
   | refine LeO.ite ?_ ?_
   | refine LeO.bind ?_ (fun _ => ?_)
theorem arboristlaw15_GrammarRight.mono : ∀ a0 a1 a2 a3 a4 k, LeO (arboristlaw15_GrammarRight.f k a0 a1 a2 a3 a4) (arboristlaw15_GrammarRight.f (k + 1) a0 a1 a2 a3 a4) := by
 (intro a0 a1 a2 a3 a4 k); (have ih0 := arboristlaw15_GrammarRight.mono_l k); (unfold arboristlaw15_GrammarRight.f)
 repeat' first
   | (with_reducible exact ih0 _ _ _ _ _ _)
   | (with_reducible exact arboristlaw15_knows.mono _)
   | (with_reducible exact arboristlaw15_many.mono _ _ _ _ _ _)
   | (with_reducible exact arboristref15_Few.mono _ _ _ _ _ _ _)
   | (with_reducible exact arboristref15_Right.mono _ _ _ _ _ _)
   | (with_reducible exact grammar_Right.mono _ _ _ _ _ _)
   | (with_reducible exact LeO.refl _)
   | (with_reducible exact LeO.none _)
   | (with_reducible refine LeO.ite ?_ ?_)
   | (with_reducible refine LeO.bind ?_ (fun _ => ?_))
   | exact ih0 _ _ _ _ _ _
   | exact arboristlaw15_knows.mono _
   | exact arboristlaw15_many.mono _ _ _ _ _ _
   | exact arboristref15_Few.mono _ _ _ _ _ _ _
   | exact arboristref15_Right.mono _ _ _ _ _ _
   | exact grammar_Right.mono _ _ _ _ _ _
   | exact LeO.none _
   | refine LeO.ite ?_ ?_
   | refine LeO.bind ?_ (fun _ => ?_)
def arboristlaw15_GrammarRight.T3 : Bool × List (List Nat × List Nat) := (true, [([], []), ([0], [0]), ([], []), ([2, 1], [2]), ([1, 3], [1, 3]), ([4, 3], [4]), ([5, 5], [5]), ([5, 6], [5, 6]), ([7, 6, 0, 1, 2, 3, 4, 5, 6, 7], [7])])
def arboristlaw15_GrammarRight.B3 : List Nat := [0, 1, 0, 7, 15, 31, 63, 127, 255]
theorem arboristlaw15_GrammarRight.tab3 : rtab .any (opsOf Tryd.f3 3) = arboristlaw15_GrammarRight.T3 := by kernel_rfl
theorem arboristlaw15_GrammarRight.bits3 : waitsOk arboristlaw15_GrammarRight.T3.2 arboristlaw15_GrammarRight.B3 = true := by kernel_rfl
set_option maxHeartbeats 8000000 in
set_option maxRecDepth 100000 in
theorem arboristlaw15_GrammarRight.calls (k : Nat) (A0_0 : Option Addr) (c0_0 : Nat) (l0_0 : List ByteArray) (A0_1 : Option Addr) (c0_1 : Nat) (l0_1 : List ByteArray) (A0_2 : Option Addr) (c0_2 : Nat) (l0_2 : List Int) (A0_3 : Option Addr) (c0_3 : Nat) (l0_3 : List (S43)) (A0_4 : Option Addr) (c0_4 : Nat) (l0_4 : List (S46)) (r : Bool) (w : World) (hgw : GW w) (hr0_0 : Kd.C Kd.string w A0_0 l0_0.length l0_0) (hc0_0 : l0_0.length ≤ c0_0) (hr0_1 : Kd.C Kd.string w A0_1 l0_1.length l0_1) (hc0_1 : l0_1.length ≤ c0_1) (hr0_2 : Kd.C (Kd.int .i64) w A0_2 l0_2.length l0_2) (hc0_2 : l0_2.length ≤ c0_2) (hr0_3 : Kd.C k43 w A0_3 l0_3.length l0_3) (hc0_3 : l0_3.length ≤ c0_3) (hr0_4 : Kd.C k46 w A0_4 l0_4.length l0_4) (hc0_4 : l0_4.length ≤ c0_4) (h : arboristlaw15_GrammarRight.f k l0_0 l0_1 l0_2 l0_3 l0_4 = some r) :
  Calls Tryd.prog 3 #[.agg #[.slice A0_0 l0_0.length c0_0, .slice A0_1 l0_1.length c0_1, .slice A0_2 l0_2.length c0_2, .slice A0_3 l0_3.length c0_3, .slice A0_4 l0_4.length c0_4]] w fun e w' => e = .returned (.bool r) ∧ Below w.heap.size w w' := by
 (have HGW := qM hgw); clear hgw; (have hu27 := Tryd.underlying27); (have HR0_0 := qM hr0_0); (have HC0_0 := qM hc0_0); clear hr0_0 hc0_0; (have HR0_1 := qM hr0_1); (have HC0_1 := qM hc0_1); clear hr0_1 hc0_1; (have HR0_2 := qM hr0_2); (have HC0_2 := qM hc0_2); clear hr0_2 hc0_2; (have HR0_3 := qM hr0_3); (have HC0_3 := qM hc0_3); clear hr0_3 hc0_3; (have HR0_4 := qM hr0_4); (have HC0_4 := qM hc0_4); clear hr0_4 hc0_4; (have HB := qM (Below.refl w.heap.size w)); (have H : ((arboristref15_Few.f k l0_0 l0_1 l0_2 l0_3 l0_4 60).bind fun t285 => (if t285 = true then (arboristlaw15_GrammarRight.j0 k false l0_0 l0_1 l0_2 l0_3 l0_4) else ((arboristlaw15_many.f k l0_0 l0_1 l0_2 l0_3 l0_4).bind fun t286 => (arboristlaw15_GrammarRight.j0 k (!t286) l0_0 l0_1 l0_2 l0_3 l0_4)))) = some r := h); clear h; (have HC2 := qM H); clear H; (go_enter Tryd.func3, Tryd.ntmps3)
 go_upto_region 1 with (first | ((with_reducible refine gate_dst (N := 1) rfl ?_); refine box_event ?hg (N := 1) ?hd (cs := #[.slice A0_0 l0_0.length c0_0, .slice A0_1 l0_1.length c0_1, .slice A0_2 l0_2.length c0_2, .slice A0_3 l0_3.length c0_3, .slice A0_4 l0_4.length c0_4]) (t := 27) ?hr ?_; (case hd => rfl); (case hg => rfl); (case hr => first | (go_simp; done) | (go_simp; rfl)); intro gb284 hg w3 hbox hb; have n0_ := qM (qP (by repeat (first | (with_reducible first | exact HB.out | apply qA | apply qN | apply qD) | exact HB.out)) hb); have n1_ := qM (hbox); have n2_ := qM ((by rw [hg]; exact (qZ (by repeat (first | (with_reducible first | exact HB.out | apply qA | apply qN | apply qD) | exact HB.out))) : w.heap.size ≤ gb284)); have n3_ := qM ((by rw [hg]; exact (qZ (by repeat (first | (with_reducible first | exact HB.out | apply qA | apply qN | apply qD) | exact HB.out))) : w.heap.size ≤ gb284)); clear HB; have HB := n0_; have BK284 := n1_; have GW284 := n2_; have GE284 := n3_; clear n0_ n1_ n2_ n3_; clear hb hbox hg))
 ((try simp only [Act.put, List.setIfInBounds_toArray, List.set_cons_zero, List.set_cons_succ])); (go_cut [10] (fun v10 wc => ∃ (kq : Nat) (x10_1 : Bool), v10 = .bool x10_1 ∧ Aside0 (arboristlaw15_GrammarRight.j0 kq x10_1 l0_0 l0_1 l0_2 l0_3 l0_4 = some r) ∧ Aside0 (kq ≤ k) ∧ Aside0 (wc.heap[gb284]? = some (.cells #[(.slice A0_0 l0_0.length c0_0), (.slice A0_1 l0_1.length c0_1), (.slice A0_2 l0_2.length c0_2), (.slice A0_3 l0_3.length c0_3), (.slice A0_4 l0_4.length c0_4)] 27 (0, 0))) ∧ Aside0 (Below w.heap.size w wc)))
 case first =>
  (have H := HC2.out); clear HC2; (replace H := Option.bind_eq_some_iff.mp H); (obtain ⟨t285, A40, H⟩ := H); (replace H : (if t285 = true then (arboristlaw15_GrammarRight.j0 k false l0_0 l0_1 l0_2 l0_3 l0_4) else ((arboristlaw15_many.f k l0_0 l0_1 l0_2 l0_3 l0_4).bind fun t286 => (arboristlaw15_GrammarRight.j0 k (!t286) l0_0 l0_1 l0_2 l0_3 l0_4))) = some r := H); (have A4 := qM A40); clear A40; (by_cases c5 : t285 = true)
  ·subst c5
   (have H1 : (arboristlaw15_GrammarRight.j0 k false l0_0 l0_1 l0_2 l0_3 l0_4) = some r := by rw [if_pos rfl] at H; exact H); clear H; (have H := H1); clear H1; (have H' := qM H); clear H; (obtain ⟨hcz6_0, hcz6_1, hcz6_2, hcz6_3, hcz6_4, hfz6_0, hfz6_1, hfz6_2, hfz6_3, hfz6_4⟩ := bx5 BK284.out)
   go_wp2_with (first | ((with_reducible refine gate_callee (f := 7) rfl ?_); refine goesL_ (some 4) rfl rfl Tryd.func7 (by kernel_rfl) rfl #[.agg #[.slice A0_0 l0_0.length c0_0, .slice A0_1 l0_1.length c0_1, .slice A0_2 l0_2.length c0_2, .slice A0_3 l0_3.length c0_3, .slice A0_4 l0_4.length c0_4], .int .i64 60] rfl (by (try simp only [List.map_toArray, List.map_cons, List.map_nil]); first | done | rfl | (simp only [List.length_drop, List.length_take]; rfl)) ?_; (with_reducible refine (arboristref15_Few.calls k _ _ l0_0 _ _ l0_1 _ _ l0_2 _ _ l0_3 _ _ l0_4 60 true _ ?side1 ?side2 ?side3 ?side4 ?side5 ?side6 ?side7 ?side8 ?side9 ?side10 A4.out).mono ?_); (case side1 => repeat (first | exact (Kd.C_below HR0_0.out HB.out) | (with_reducible refine Kd.C_alloc ?_ _) | (with_reducible refine Kd.C_drewN ?_ _) | (with_reducible refine Kd.C_drew ?_))); (case side2 => exact HC0_0.out); (case side3 => repeat (first | exact (Kd.C_below HR0_1.out HB.out) | (with_reducible refine Kd.C_alloc ?_ _) | (with_reducible refine Kd.C_drewN ?_ _) | (with_reducible refine Kd.C_drew ?_))); (case side4 => exact HC0_1.out); (case side5 => repeat (first | exact (Kd.C_below HR0_2.out HB.out) | (with_reducible refine Kd.C_alloc ?_ _) | (with_reducible refine Kd.C_drewN ?_ _) | (with_reducible refine Kd.C_drew ?_))); (case side6 => exact HC0_2.out); (case side7 => repeat (first | exact (Kd.C_below HR0_3.out HB.out) | (with_reducible refine Kd.C_alloc ?_ _) | (with_reducible refine Kd.C_drewN ?_ _) | (with_reducible refine Kd.C_drew ?_))); (case side8 => exact HC0_3.out); (case side9 => repeat (first | exact (Kd.C_below HR0_4.out HB.out) | (with_reducible refine Kd.C_alloc ?_ _) | (with_reducible refine Kd.C_drewN ?_ _) | (with_reducible refine Kd.C_drew ?_))); (case side10 => exact HC0_4.out); rintro e w7 ⟨rfl, hb⟩; refine ⟨_, rfl, ?_⟩; have n0_ := qM (qb (g := gb284) (o := .cells #[.slice A0_0 l0_0.length c0_0, .slice A0_1 l0_1.length c0_1, .slice A0_2 l0_2.length c0_2, .slice A0_3 l0_3.length c0_3, .slice A0_4 l0_4.length c0_4] 27 (0, 0)) (by (with_reducible repeat (first | refine qn ?_ _ | refine qd ?_ | refine qa ?_ _)); exact BK284.out) hb); have n1_ := qM (qP (by repeat (first | (with_reducible first | exact HB.out | apply qA | apply qN | apply qD | refine qS ?_ GE284.out) | exact HB.out)) hb); clear BK284; clear HB; have BK284 := n0_; have HB := n1_; clear n0_ n1_; (try clear hb); (try clear hb2); (try clear hk); (try clear hi)))
   go_meet
   case rel => exact ⟨_, (false), (by first | rfl | (simp; done) | (simp [*]; done)), H', ⟨by first | omega | exact Nat.le_refl _⟩, ⟨by (with_reducible repeat (first | refine qn ?_ _ | refine qd ?_ | refine qa ?_ _)); exact BK284.out⟩, ⟨by repeat (first | (with_reducible first | exact HB.out | apply qA | apply qN | apply qD | refine qS ?_ GE284.out) | exact HB.out)⟩⟩
  ·replace c5 := Bool.eq_false_iff.mpr c5
   subst c5; (have H1 : ((arboristlaw15_many.f k l0_0 l0_1 l0_2 l0_3 l0_4).bind fun t286 => (arboristlaw15_GrammarRight.j0 k (!t286) l0_0 l0_1 l0_2 l0_3 l0_4)) = some r := by rw [if_neg (show ¬ (false = true) by decide)] at H; exact H); clear H; (have H := H1); clear H1; (replace H := Option.bind_eq_some_iff.mp H); (obtain ⟨t286, A80, H⟩ := H); (replace H : (arboristlaw15_GrammarRight.j0 k (!t286) l0_0 l0_1 l0_2 l0_3 l0_4) = some r := H); (have A8 := qM A80); clear A80; (have H' := qM H); clear H; (obtain ⟨hcz9_0, hcz9_1, hcz9_2, hcz9_3, hcz9_4, hfz9_0, hfz9_1, hfz9_2, hfz9_3, hfz9_4⟩ := bx5 BK284.out)
   go_wp2_with (first | ((with_reducible refine gate_callee (f := 7) rfl ?_); refine goesL_ (some 4) rfl rfl Tryd.func7 (by kernel_rfl) rfl #[.agg #[.slice A0_0 l0_0.length c0_0, .slice A0_1 l0_1.length c0_1, .slice A0_2 l0_2.length c0_2, .slice A0_3 l0_3.length c0_3, .slice A0_4 l0_4.length c0_4], .int .i64 60] rfl (by (try simp only [List.map_toArray, List.map_cons, List.map_nil]); first | done | rfl | (simp only [List.length_drop, List.length_take]; rfl)) ?_; (with_reducible refine (arboristref15_Few.calls k _ _ l0_0 _ _ l0_1 _ _ l0_2 _ _ l0_3 _ _ l0_4 60 false _ ?side1 ?side2 ?side3 ?side4 ?side5 ?side6 ?side7 ?side8 ?side9 ?side10 A4.out).mono ?_); (case side1 => repeat (first | exact (Kd.C_below HR0_0.out HB.out) | (with_reducible refine Kd.C_alloc ?_ _) | (with_reducible refine Kd.C_drewN ?_ _) | (with_reducible refine Kd.C_drew ?_))); (case side2 => exact HC0_0.out); (case side3 => repeat (first | exact (Kd.C_below HR0_1.out HB.out) | (with_reducible refine Kd.C_alloc ?_ _) | (with_reducible refine Kd.C_drewN ?_ _) | (with_reducible refine Kd.C_drew ?_))); (case side4 => exact HC0_1.out); (case side5 => repeat (first | exact (Kd.C_below HR0_2.out HB.out) | (with_reducible refine Kd.C_alloc ?_ _) | (with_reducible refine Kd.C_drewN ?_ _) | (with_reducible refine Kd.C_drew ?_))); (case side6 => exact HC0_2.out); (case side7 => repeat (first | exact (Kd.C_below HR0_3.out HB.out) | (with_reducible refine Kd.C_alloc ?_ _) | (with_reducible refine Kd.C_drewN ?_ _) | (with_reducible refine Kd.C_drew ?_))); (case side8 => exact HC0_3.out); (case side9 => repeat (first | exact (Kd.C_below HR0_4.out HB.out) | (with_reducible refine Kd.C_alloc ?_ _) | (with_reducible refine Kd.C_drewN ?_ _) | (with_reducible refine Kd.C_drew ?_))); (case side10 => exact HC0_4.out); rintro e w10 ⟨rfl, hb⟩; refine ⟨_, rfl, ?_⟩; have n0_ := qM (qb (g := gb284) (o := .cells #[.slice A0_0 l0_0.length c0_0, .slice A0_1 l0_1.length c0_1, .slice A0_2 l0_2.length c0_2, .slice A0_3 l0_3.length c0_3, .slice A0_4 l0_4.length c0_4] 27 (0, 0)) (by (with_reducible repeat (first | refine qn ?_ _ | refine qd ?_ | refine qa ?_ _)); exact BK284.out) hb); have n1_ := qM (qP (by repeat (first | (with_reducible first | exact HB.out | apply qA | apply qN | apply qD | refine qS ?_ GE284.out) | exact HB.out)) hb); clear BK284; clear HB; have BK284 := n0_; have HB := n1_; clear n0_ n1_; (try clear hb); (try clear hb2); (try clear hk); (try clear hi); obtain ⟨hcz11_0, hcz11_1, hcz11_2, hcz11_3, hcz11_4, hfz11_0, hfz11_1, hfz11_2, hfz11_3, hfz11_4⟩ := bx5 BK284.out) | (go_at_call 8; (with_reducible refine (arboristlaw15_many.calls k _ _ l0_0 _ _ l0_1 _ _ l0_2 _ _ l0_3 _ _ l0_4 t286 _ ?side1 ?side2 ?side3 ?side4 ?side5 ?side6 ?side7 ?side8 ?side9 ?side10 A8.out).mono ?_); (case side1 => repeat (first | exact (Kd.C_below HR0_0.out HB.out) | (with_reducible refine Kd.C_alloc ?_ _) | (with_reducible refine Kd.C_drewN ?_ _) | (with_reducible refine Kd.C_drew ?_))); (case side2 => exact HC0_0.out); (case side3 => repeat (first | exact (Kd.C_below HR0_1.out HB.out) | (with_reducible refine Kd.C_alloc ?_ _) | (with_reducible refine Kd.C_drewN ?_ _) | (with_reducible refine Kd.C_drew ?_))); (case side4 => exact HC0_1.out); (case side5 => repeat (first | exact (Kd.C_below HR0_2.out HB.out) | (with_reducible refine Kd.C_alloc ?_ _) | (with_reducible refine Kd.C_drewN ?_ _) | (with_reducible refine Kd.C_drew ?_))); (case side6 => exact HC0_2.out); (case side7 => repeat (first | exact (Kd.C_below HR0_3.out HB.out) | (with_reducible refine Kd.C_alloc ?_ _) | (with_reducible refine Kd.C_drewN ?_ _) | (with_reducible refine Kd.C_drew ?_))); (case side8 => exact HC0_3.out); (case side9 => repeat (first | exact (Kd.C_below HR0_4.out HB.out) | (with_reducible refine Kd.C_alloc ?_ _) | (with_reducible refine Kd.C_drewN ?_ _) | (with_reducible refine Kd.C_drew ?_))); (case side10 => exact HC0_4.out); rintro e w12 ⟨rfl, hb⟩; have n0_ := qM (qb (g := gb284) (o := .cells #[.slice A0_0 l0_0.length c0_0, .slice A0_1 l0_1.length c0_1, .slice A0_2 l0_2.length c0_2, .slice A0_3 l0_3.length c0_3, .slice A0_4 l0_4.length c0_4] 27 (0, 0)) (by (with_reducible repeat (first | refine qn ?_ _ | refine qd ?_ | refine qa ?_ _)); exact BK284.out) hb); have n1_ := qM (qP (by repeat (first | (with_reducible first | exact HB.out | apply qA | apply qN | apply qD | refine qS ?_ GE284.out) | exact HB.out)) hb); clear BK284; clear HB; have BK284 := n0_; have HB := n1_; clear n0_ n1_; (try clear hb); (try clear hb2); (try clear hk); (try clear hi)))
   go_meet
   case rel => exact ⟨_, (!t286), (by first | rfl | (simp; done) | (simp [*]; done)), H', ⟨by first | omega | exact Nat.le_refl _⟩, ⟨by (with_reducible repeat (first | refine qn ?_ _ | refine qd ?_ | refine qa ?_ _)); exact BK284.out⟩, ⟨by repeat (first | (with_reducible first | exact HB.out | apply qA | apply qN | apply qD | refine qS ?_ GE284.out) | exact HB.out)⟩⟩
 case rest =>
  clear HC2; (try clear p2); (try clear c3); (try clear c5); (try clear c7); (try clear hcz11_0 hcz11_1 hcz11_2 hcz11_3 hcz11_4); (try clear hcz6_0 hcz6_1 hcz6_2 hcz6_3 hcz6_4); (try clear hcz9_0 hcz9_1 hcz9_2 hcz9_3 hcz9_4); (try clear hfz11_0 hfz11_1 hfz11_2 hfz11_3 hfz11_4); (try clear hfz6_0 hfz6_1 hfz6_2 hfz6_3 hfz6_4); (try clear hfz9_0 hfz9_1 hfz9_2 hfz9_3 hfz9_4); (obtain ⟨kq, x10_1, rfl, HA, HJ1, BK284, HB⟩ := hcut)
  cases kq with
  | zero => exact absurd HA.out (by simp [arboristlaw15_GrammarRight.j0])
  | succ kj1 =>
   (have H := HA.out); clear HA; (simp only [arboristlaw15_GrammarRight.j0] at H); (by_cases c13 : x10_1 = true)
   ·subst c13
    (have H1 : ((arboristlaw15_knows.f kj1).bind fun t287 => (some t287)) = some r := by rw [if_pos rfl] at H; exact H); clear H; (have H := H1); clear H1; (replace H := Option.bind_eq_some_iff.mp H); (obtain ⟨t287, A140, H⟩ := H); (replace H : (some t287) = some r := H); (have A14 := qM A140); clear A140; (obtain rfl := Option.some.inj H)
    go_wp2_with (first | ((with_reducible refine gate_callee (f := 9) rfl ?_); refine goesL_ (some 11) rfl rfl Tryd.func9 (by kernel_rfl) rfl #[] rfl (by (try simp only [List.map_toArray, List.map_cons, List.map_nil]); first | done | rfl | (simp only [List.length_drop, List.length_take]; rfl)) ?_; (with_reducible refine (arboristlaw15_knows.calls kj1  t287 _ ?side1 A14.out).mono ?_); (case side1 => exact GW.below HGW.out (by repeat (first | (with_reducible first | exact HB.out | apply qA | apply qN | apply qD | refine qS ?_ GE284.out) | exact HB.out))); rintro e w15 ⟨rfl, hb⟩; refine ⟨_, rfl, ?_⟩; have n0_ := qM (qb (g := gb284) (o := .cells #[.slice A0_0 l0_0.length c0_0, .slice A0_1 l0_1.length c0_1, .slice A0_2 l0_2.length c0_2, .slice A0_3 l0_3.length c0_3, .slice A0_4 l0_4.length c0_4] 27 (0, 0)) (by (with_reducible repeat (first | refine qn ?_ _ | refine qd ?_ | refine qa ?_ _)); exact BK284.out) hb); have n1_ := qM (qP (by repeat (first | (with_reducible first | exact HB.out | apply qA | apply qN | apply qD | refine qS ?_ GE284.out) | exact HB.out)) hb); clear BK284; clear HB; have BK284 := n0_; have HB := n1_; clear n0_ n1_; (try clear hb); (try clear hb2); (try clear hk); (try clear hi)))
    (go_ret); (exact ⟨by first | rfl | (simp [errW_none, errW_some] <;> rfl) | (simp [*, errW_none, errW_some] <;> rfl), by repeat (first | (with_reducible first | exact HB.out | apply qA | apply qN | apply qD | refine qS ?_ GE284.out) | exact HB.out)⟩)
   ·replace c13 := Bool.eq_false_iff.mpr c13
    subst c13; (have H1 : ((grammar_Right.f kj1 l0_0 l0_1 l0_2 l0_3 l0_4).bind fun t288 => ((arboristref15_Right.f kj1 l0_0 l0_1 l0_2 l0_3 l0_4).bind fun t289 => (if t288 = t289 then ((arboristlaw15_knows.f kj1).bind fun t290 => (some t290)) else (some false)))) = some r := by rw [if_neg (show ¬ (false = true) by decide)] at H; exact H); clear H; (have H := H1); clear H1; (replace H := Option.bind_eq_some_iff.mp H); (obtain ⟨t288, A160, H⟩ := H); (replace H : ((arboristref15_Right.f kj1 l0_0 l0_1 l0_2 l0_3 l0_4).bind fun t289 => (if t288 = t289 then ((arboristlaw15_knows.f kj1).bind fun t290 => (some t290)) else (some false))) = some r := H); (have A16 := qM A160); clear A160; (replace H := Option.bind_eq_some_iff.mp H); (obtain ⟨t289, A170, H⟩ := H); (replace H : (if t288 = t289 then ((arboristlaw15_knows.f kj1).bind fun t290 => (some t290)) else (some false)) = some r := H); (have A17 := qM A170); clear A170; (by_cases c18 : t288 = t289)
    ·rw [if_pos c18] at H
     (have c18b0 : (t288 == t289) = true := beq_iff_eq.mpr c18); (have c18b1 : (t288 != t289) = false := bne_eq_false_iff_eq.mpr c18); clear c18; (replace H := Option.bind_eq_some_iff.mp H); (obtain ⟨t290, A190, H⟩ := H); (replace H : (some t290) = some r := H); (have A19 := qM A190); clear A190; (obtain rfl := Option.some.inj H); (try go_wp2); (have n0_ := qM (qd BK284.out)); (have n1_ := qM (qD HB.out)); clear BK284 HB; (have BK284 := n0_); (have HB := n1_); clear n0_ n1_
     refine start_ (n := 9) (S := fun w' => w'.cell? ⟨gb284, 0, none⟩ = some (.slice A0_0 l0_0.length c0_0) ∧ w'.cell? ⟨gb284, 1, none⟩ = some (.slice A0_1 l0_1.length c0_1) ∧ w'.cell? ⟨gb284, 2, none⟩ = some (.slice A0_2 l0_2.length c0_2) ∧ w'.cell? ⟨gb284, 3, none⟩ = some (.slice A0_3 l0_3.length c0_3) ∧ w'.cell? ⟨gb284, 4, none⟩ = some (.slice A0_4 l0_4.length c0_4)) (ds := []) #[false, false, false, false, false, false, false, false, false] (by kernel_rfl) rfl rfl ⟨(blk_cell BK284.out 0).trans rfl, (blk_cell BK284.out 1).trans rfl, (blk_cell BK284.out 2).trans rfl, (blk_cell BK284.out 3).trans rfl, (blk_cell BK284.out 4).trans rfl⟩ (fun hHeld => ?_); refine with_tabW arboristlaw15_GrammarRight.tab3 arboristlaw15_GrammarRight.bits3 (fun HT_ HW_ => ?_)
     (generalize wc.drew = w20 at BK284 HB hHeld ⊢); (refine take_ (i := 0) (N := some 12) (v := ?_) (a' := ?_) #[true, false, false, false, false, false, false, false, false] rfl rfl (take_ofW HT_.out HW_.out (by kernel_rfl)) (fun _ _ _ h => h) (Or.inl ⟨by rfl, ?_⟩) hHeld ?_ ?_); rotate_left
     ·rintro w' ⟨s0, s1, s2, s3, s4⟩
      (go_simp); (with_reducible rfl)
     rotate_left; ((simp only [Act.put, List.setIfInBounds_toArray, List.set_cons_zero, List.set_cons_succ, i64_w, i32_w]; rfl)); (refine take_ (i := 2) (N := some 14) (v := ?_) (a' := ?_) #[true, false, true, false, false, false, false, false, false] rfl rfl (take_ofW HT_.out HW_.out (by kernel_rfl)) (fun _ _ _ h => h) (Or.inl ⟨by rfl, ?_⟩) hHeld ?_ ?_); rotate_left
     ·rintro w' ⟨s0, s1, s2, s3, s4⟩
      (go_simp); (with_reducible rfl)
     rotate_left; ((simp only [Act.put, List.setIfInBounds_toArray, List.set_cons_zero, List.set_cons_succ, i64_w, i32_w]; rfl)); (refine one_ (i := 1) (N := some 13) #[true, true, true, false, false, false, false, false, false] rfl rfl (one_of HT_.out (by kernel_rfl)) (by decide) (fun K hK => ?_)); (refine goes_ Tryd.func10 (by kernel_rfl) rfl #[.agg #[.slice A0_0 l0_0.length c0_0, .slice A0_1 l0_1.length c0_1, .slice A0_2 l0_2.length c0_2, .slice A0_3 l0_3.length c0_3, .slice A0_4 l0_4.length c0_4]] (by rfl) rfl rfl (by (try simp only [List.map_toArray, List.map_cons, List.map_nil]); first | done | rfl | (simp only [List.length_drop, List.length_take]; rfl)) ?_); (with_reducible refine (grammar_Right.calls kj1 _ _ l0_0 _ _ l0_1 _ _ l0_2 _ _ l0_3 _ _ l0_4 t288 _ ?side1 ?side2 ?side3 ?side4 ?side5 ?side6 ?side7 ?side8 ?side9 ?side10 A16.out).mono ?_); ((case side1 => repeat (first | exact (Kd.C_below HR0_0.out HB.out) | (with_reducible refine Kd.C_alloc ?_ _) | (with_reducible refine Kd.C_drewN ?_ _) | (with_reducible refine Kd.C_drew ?_)))); ((case side2 => exact HC0_0.out)); ((case side3 => repeat (first | exact (Kd.C_below HR0_1.out HB.out) | (with_reducible refine Kd.C_alloc ?_ _) | (with_reducible refine Kd.C_drewN ?_ _) | (with_reducible refine Kd.C_drew ?_)))); ((case side4 => exact HC0_1.out)); ((case side5 => repeat (first | exact (Kd.C_below HR0_2.out HB.out) | (with_reducible refine Kd.C_alloc ?_ _) | (with_reducible refine Kd.C_drewN ?_ _) | (with_reducible refine Kd.C_drew ?_)))); ((case side6 => exact HC0_2.out)); ((case side7 => repeat (first | exact (Kd.C_below HR0_3.out HB.out) | (with_reducible refine Kd.C_alloc ?_ _) | (with_reducible refine Kd.C_drewN ?_ _) | (with_reducible refine Kd.C_drew ?_)))); ((case side8 => exact HC0_3.out)); ((case side9 => repeat (first | exact (Kd.C_below HR0_4.out HB.out) | (with_reducible refine Kd.C_alloc ?_ _) | (with_reducible refine Kd.C_drewN ?_ _) | (with_reducible refine Kd.C_drew ?_)))); ((case side10 => exact HC0_4.out)); (rintro e w21 ⟨rfl, hb⟩); (refine ⟨_, rfl, ?_⟩); (have n0_ := qM (qb (g := gb284) (o := .cells #[.slice A0_0 l0_0.length c0_0, .slice A0_1 l0_1.length c0_1, .slice A0_2 l0_2.length c0_2, .slice A0_3 l0_3.length c0_3, .slice A0_4 l0_4.length c0_4] 27 (0, 0)) (by (with_reducible repeat (first | refine qn ?_ _ | refine qd ?_ | refine qa ?_ _)); exact BK284.out) hb)); (have n1_ := qM (qP (by repeat (first | (with_reducible first | exact HB.out | apply qA | apply qN | apply qD | refine qS ?_ GE284.out) | exact HB.out)) hb))
     clear BK284 HB; (have BK284 := n0_); (have HB := n1_); clear n0_ n1_; ((try clear hb)); ((try clear hb2)); ((try clear hk)); ((try clear hi)); (refine hK.out _ _ ⟨(blk_cell BK284.out 0).trans rfl, (blk_cell BK284.out 1).trans rfl, (blk_cell BK284.out 2).trans rfl, (blk_cell BK284.out 3).trans rfl, (blk_cell BK284.out 4).trans rfl⟩ (fun hHeld => ?_)); clear hK K; (refine norm_ (a' := ?_) ?_ ?_); rotate_left; ((show Act.put _ (some 13) _ = _; simp only [Act.put, List.setIfInBounds_toArray, List.set_cons_zero, List.set_cons_succ, i64_w, i32_w]; rfl)); (refine one_ (i := 3) (N := some 15) #[true, true, true, true, false, false, false, false, false] rfl rfl (one_of HT_.out (by kernel_rfl)) (by decide) (fun K hK => ?_)); (refine goes_ Tryd.func11 (by kernel_rfl) rfl #[.agg #[.slice A0_0 l0_0.length c0_0, .slice A0_1 l0_1.length c0_1, .slice A0_2 l0_2.length c0_2, .slice A0_3 l0_3.length c0_3, .slice A0_4 l0_4.length c0_4]] (by rfl) rfl rfl (by (try simp only [List.map_toArray, List.map_cons, List.map_nil]); first | done | rfl | (simp only [List.length_drop, List.length_take]; rfl)) ?_); (with_reducible refine (arboristref15_Right.calls kj1 _ _ l0_0 _ _ l0_1 _ _ l0_2 _ _ l0_3 _ _ l0_4 t289 _ ?side1 ?side2 ?side3 ?side4 ?side5 ?side6 ?side7 ?side8 ?side9 ?side10 A17.out).mono ?_); ((case side1 => repeat (first | exact (Kd.C_below HR0_0.out HB.out) | (with_reducible refine Kd.C_alloc ?_ _) | (with_reducible refine Kd.C_drewN ?_ _) | (with_reducible refine Kd.C_drew ?_)))); ((case side2 => exact HC0_0.out)); ((case side3 => repeat (first | exact (Kd.C_below HR0_1.out HB.out) | (with_reducible refine Kd.C_alloc ?_ _) | (with_reducible refine Kd.C_drewN ?_ _) | (with_reducible refine Kd.C_drew ?_)))); ((case side4 => exact HC0_1.out)); ((case side5 => repeat (first | exact (Kd.C_below HR0_2.out HB.out) | (with_reducible refine Kd.C_alloc ?_ _) | (with_reducible refine Kd.C_drewN ?_ _) | (with_reducible refine Kd.C_drew ?_)))); ((case side6 => exact HC0_2.out)); ((case side7 => repeat (first | exact (Kd.C_below HR0_3.out HB.out) | (with_reducible refine Kd.C_alloc ?_ _) | (with_reducible refine Kd.C_drewN ?_ _) | (with_reducible refine Kd.C_drew ?_)))); ((case side8 => exact HC0_3.out)); ((case side9 => repeat (first | exact (Kd.C_below HR0_4.out HB.out) | (with_reducible refine Kd.C_alloc ?_ _) | (with_reducible refine Kd.C_drewN ?_ _) | (with_reducible refine Kd.C_drew ?_)))); ((case side10 => exact HC0_4.out)); (rintro e w22 ⟨rfl, hb⟩); (refine ⟨_, rfl, ?_⟩); (have n0_ := qM (qb (g := gb284) (o := .cells #[.slice A0_0 l0_0.length c0_0, .slice A0_1 l0_1.length c0_1, .slice A0_2 l0_2.length c0_2, .slice A0_3 l0_3.length c0_3, .slice A0_4 l0_4.length c0_4] 27 (0, 0)) (by (with_reducible repeat (first | refine qn ?_ _ | refine qd ?_ | refine qa ?_ _)); exact BK284.out) hb))
     (have n1_ := qM (qP (by repeat (first | (with_reducible first | exact HB.out | apply qA | apply qN | apply qD | refine qS ?_ GE284.out) | exact HB.out)) hb)); clear BK284 HB; (have BK284 := n0_); (have HB := n1_); clear n0_ n1_; ((try clear hb)); ((try clear hb2)); ((try clear hk)); ((try clear hi)); (refine hK.out _ _ ⟨(blk_cell BK284.out 0).trans rfl, (blk_cell BK284.out 1).trans rfl, (blk_cell BK284.out 2).trans rfl, (blk_cell BK284.out 3).trans rfl, (blk_cell BK284.out 4).trans rfl⟩ (fun hHeld => ?_)); clear hK K; (refine norm_ (a' := ?_) ?_ ?_); rotate_left; ((show Act.put _ (some 15) _ = _; simp only [Act.put, List.setIfInBounds_toArray, List.set_cons_zero, List.set_cons_succ, i64_w, i32_w]; rfl)); (refine pure_ (i := 4) (N := some 16) (v := ?_) (a' := ?_) #[true, true, true, true, true, false, false, false, false] rfl rfl (any_of HT_.out (by kernel_rfl)) (fun _ _ _ h => h) (Or.inl ⟨by rfl, ?_⟩) ?_ ?_); rotate_left; ((intro w'; go_simp; with_reducible rfl)); rotate_left; ((simp only [Act.put, List.setIfInBounds_toArray, List.set_cons_zero, List.set_cons_succ, i64_w, i32_w]; rfl)); (refine pure_ (i := 5) (N := some 17) (v := ?_) (a' := ?_) #[true, true, true, true, true, true, false, false, false] rfl rfl (any_of HT_.out (by kernel_rfl)) (fun _ _ _ h => h) (Or.inl ⟨by rfl, ?_⟩) ?_ ?_); rotate_left; ((intro w'; go_simp; with_reducible rfl)); rotate_left; ((simp only [Act.put, List.setIfInBounds_toArray, List.set_cons_zero, List.set_cons_succ, i64_w, i32_w]; rfl)); (refine one_ (i := 6) (N := some 18) #[true, true, true, true, true, true, true, false, false] rfl rfl (one_of HT_.out (by kernel_rfl)) (by decide) (fun K hK => ?_)); (refine goes_ Tryd.func9 (by kernel_rfl) rfl #[] (by rfl) rfl rfl (by (try simp only [List.map_toArray, List.map_cons, List.map_nil]); first | done | rfl | (simp only [List.length_drop, List.length_take]; rfl)) ?_); (with_reducible refine (arboristlaw15_knows.calls kj1  t290 _ ?side1 A19.out).mono ?_); ((case side1 => exact GW.below HGW.out (by repeat (first | (with_reducible first | exact HB.out | apply qA | apply qN | apply qD | refine qS ?_ GE284.out) | exact HB.out)))); (rintro e w23 ⟨rfl, hb⟩); (refine ⟨_, rfl, ?_⟩); (have n0_ := qM (qb (g := gb284) (o := .cells #[.slice A0_0 l0_0.length c0_0, .slice A0_1 l0_1.length c0_1, .slice A0_2 l0_2.length c0_2, .slice A0_3 l0_3.length c0_3, .slice A0_4 l0_4.length c0_4] 27 (0, 0)) (by (with_reducible repeat (first | refine qn ?_ _ | refine qd ?_ | refine qa ?_ _)); exact BK284.out) hb))
     (have n1_ := qM (qP (by repeat (first | (with_reducible first | exact HB.out | apply qA | apply qN | apply qD | refine qS ?_ GE284.out) | exact HB.out)) hb)); clear BK284 HB; (have BK284 := n0_); (have HB := n1_); clear n0_ n1_; ((try clear hb)); ((try clear hb2)); ((try clear hk)); ((try clear hi)); (refine hK.out _ _ ⟨(blk_cell BK284.out 0).trans rfl, (blk_cell BK284.out 1).trans rfl, (blk_cell BK284.out 2).trans rfl, (blk_cell BK284.out 3).trans rfl, (blk_cell BK284.out 4).trans rfl⟩ (fun hHeld => ?_)); clear hK K; (refine norm_ (a' := ?_) ?_ ?_); rotate_left; ((show Act.put _ (some 18) _ = _; simp only [Act.put, List.setIfInBounds_toArray, List.set_cons_zero, List.set_cons_succ, i64_w, i32_w]; rfl)); (refine pure_ (i := 7) (N := some 19) (v := ?_) (a' := ?_) #[true, true, true, true, true, true, true, true, false] rfl rfl (any_of HT_.out (by kernel_rfl)) (fun _ _ _ h => h) (Or.inl ⟨by rfl, ?_⟩) ?_ ?_); rotate_left; ((intro w'; go_simp; with_reducible rfl)); rotate_left; ((simp only [Act.put, List.setIfInBounds_toArray, List.set_cons_zero, List.set_cons_succ, i64_w, i32_w]; rfl)); (refine pure_ (i := 8) (N := some 2) (v := ?_) (a' := ?_) #[true, true, true, true, true, true, true, true, true] rfl rfl (any_of HT_.out (by kernel_rfl)) (fun _ _ _ h => h) (Or.inl ⟨by rfl, ?_⟩) ?_ ?_); rotate_left; ((intro w'; go_simp; with_reducible rfl)); rotate_left; ((simp only [Act.put, List.setIfInBounds_toArray, List.set_cons_zero, List.set_cons_succ, i64_w, i32_w]; rfl)); (refine done_ (done_of HT_.out (by kernel_rfl)) ?_); (try go_wp2); (go_ret); (exact ⟨by first | rfl | (simp [errW_none, errW_some] <;> rfl) | (simp [*, errW_none, errW_some] <;> rfl), by repeat (first | (with_reducible first | exact HB.out | apply qA | apply qN | apply qD | refine qS ?_ GE284.out) | exact HB.out)⟩)
    ·rw [if_neg c18] at H
     (have c18b0 : (t288 == t289) = false := beq_eq_false_iff_ne.mpr c18); (have c18b1 : (t288 != t289) = true := bne_iff_ne.mpr c18); (obtain rfl := Option.some.inj H); (try go_wp2); (have n0_ := qM (qd BK284.out)); (have n1_ := qM (qD HB.out)); clear BK284 HB; (have BK284 := n0_); (have HB := n1_); clear n0_ n1_
     refine start_ (n := 9) (S := fun w' => w'.cell? ⟨gb284, 0, none⟩ = some (.slice A0_0 l0_0.length c0_0) ∧ w'.cell? ⟨gb284, 1, none⟩ = some (.slice A0_1 l0_1.length c0_1) ∧ w'.cell? ⟨gb284, 2, none⟩ = some (.slice A0_2 l0_2.length c0_2) ∧ w'.cell? ⟨gb284, 3, none⟩ = some (.slice A0_3 l0_3.length c0_3) ∧ w'.cell? ⟨gb284, 4, none⟩ = some (.slice A0_4 l0_4.length c0_4)) (ds := []) #[false, false, false, false, false, false, false, false, false] (by kernel_rfl) rfl rfl ⟨(blk_cell BK284.out 0).trans rfl, (blk_cell BK284.out 1).trans rfl, (blk_cell BK284.out 2).trans rfl, (blk_cell BK284.out 3).trans rfl, (blk_cell BK284.out 4).trans rfl⟩ (fun hHeld => ?_); refine with_tabW arboristlaw15_GrammarRight.tab3 arboristlaw15_GrammarRight.bits3 (fun HT_ HW_ => ?_)
     (generalize wc.drew = w24 at BK284 HB hHeld ⊢); (refine take_ (i := 0) (N := some 12) (v := ?_) (a' := ?_) #[true, false, false, false, false, false, false, false, false] rfl rfl (take_ofW HT_.out HW_.out (by kernel_rfl)) (fun _ _ _ h => h) (Or.inl ⟨by rfl, ?_⟩) hHeld ?_ ?_); rotate_left
     ·rintro w' ⟨s0, s1, s2, s3, s4⟩
      (go_simp); (with_reducible rfl)
     rotate_left; ((simp only [Act.put, List.setIfInBounds_toArray, List.set_cons_zero, List.set_cons_succ, i64_w, i32_w]; rfl)); (refine take_ (i := 2) (N := some 14) (v := ?_) (a' := ?_) #[true, false, true, false, false, false, false, false, false] rfl rfl (take_ofW HT_.out HW_.out (by kernel_rfl)) (fun _ _ _ h => h) (Or.inl ⟨by rfl, ?_⟩) hHeld ?_ ?_); rotate_left
     ·rintro w' ⟨s0, s1, s2, s3, s4⟩
      (go_simp); (with_reducible rfl)
     rotate_left; ((simp only [Act.put, List.setIfInBounds_toArray, List.set_cons_zero, List.set_cons_succ, i64_w, i32_w]; rfl)); (refine one_ (i := 1) (N := some 13) #[true, true, true, false, false, false, false, false, false] rfl rfl (one_of HT_.out (by kernel_rfl)) (by decide) (fun K hK => ?_)); (refine goes_ Tryd.func10 (by kernel_rfl) rfl #[.agg #[.slice A0_0 l0_0.length c0_0, .slice A0_1 l0_1.length c0_1, .slice A0_2 l0_2.length c0_2, .slice A0_3 l0_3.length c0_3, .slice A0_4 l0_4.length c0_4]] (by rfl) rfl rfl (by (try simp only [List.map_toArray, List.map_cons, List.map_nil]); first | done | rfl | (simp only [List.length_drop, List.length_take]; rfl)) ?_); (with_reducible refine (grammar_Right.calls kj1 _ _ l0_0 _ _ l0_1 _ _ l0_2 _ _ l0_3 _ _ l0_4 t288 _ ?side1 ?side2 ?side3 ?side4 ?side5 ?side6 ?side7 ?side8 ?side9 ?side10 A16.out).mono ?_); ((case side1 => repeat (first | exact (Kd.C_below HR0_0.out HB.out) | (with_reducible refine Kd.C_alloc ?_ _) | (with_reducible refine Kd.C_drewN ?_ _) | (with_reducible refine Kd.C_drew ?_)))); ((case side2 => exact HC0_0.out)); ((case side3 => repeat (first | exact (Kd.C_below HR0_1.out HB.out) | (with_reducible refine Kd.C_alloc ?_ _) | (with_reducible refine Kd.C_drewN ?_ _) | (with_reducible refine Kd.C_drew ?_)))); ((case side4 => exact HC0_1.out)); ((case side5 => repeat (first | exact (Kd.C_below HR0_2.out HB.out) | (with_reducible refine Kd.C_alloc ?_ _) | (with_reducible refine Kd.C_drewN ?_ _) | (with_reducible refine Kd.C_drew ?_)))); ((case side6 => exact HC0_2.out)); ((case side7 => repeat (first | exact (Kd.C_below HR0_3.out HB.out) | (with_reducible refine Kd.C_alloc ?_ _) | (with_reducible refine Kd.C_drewN ?_ _) | (with_reducible refine Kd.C_drew ?_)))); ((case side8 => exact HC0_3.out)); ((case side9 => repeat (first | exact (Kd.C_below HR0_4.out HB.out) | (with_reducible refine Kd.C_alloc ?_ _) | (with_reducible refine Kd.C_drewN ?_ _) | (with_reducible refine Kd.C_drew ?_)))); ((case side10 => exact HC0_4.out)); (rintro e w25 ⟨rfl, hb⟩); (refine ⟨_, rfl, ?_⟩); (have n0_ := qM (qb (g := gb284) (o := .cells #[.slice A0_0 l0_0.length c0_0, .slice A0_1 l0_1.length c0_1, .slice A0_2 l0_2.length c0_2, .slice A0_3 l0_3.length c0_3, .slice A0_4 l0_4.length c0_4] 27 (0, 0)) (by (with_reducible repeat (first | refine qn ?_ _ | refine qd ?_ | refine qa ?_ _)); exact BK284.out) hb)); (have n1_ := qM (qP (by repeat (first | (with_reducible first | exact HB.out | apply qA | apply qN | apply qD | refine qS ?_ GE284.out) | exact HB.out)) hb))
     clear BK284 HB; (have BK284 := n0_); (have HB := n1_); clear n0_ n1_; ((try clear hb)); ((try clear hb2)); ((try clear hk)); ((try clear hi)); (refine hK.out _ _ ⟨(blk_cell BK284.out 0).trans rfl, (blk_cell BK284.out 1).trans rfl, (blk_cell BK284.out 2).trans rfl, (blk_cell BK284.out 3).trans rfl, (blk_cell BK284.out 4).trans rfl⟩ (fun hHeld => ?_)); clear hK K; (refine norm_ (a' := ?_) ?_ ?_); rotate_left; ((show Act.put _ (some 13) _ = _; simp only [Act.put, List.setIfInBounds_toArray, List.set_cons_zero, List.set_cons_succ, i64_w, i32_w]; rfl)); (refine one_ (i := 3) (N := some 15) #[true, true, true, true, false, false, false, false, false] rfl rfl (one_of HT_.out (by kernel_rfl)) (by decide) (fun K hK => ?_)); (refine goes_ Tryd.func11 (by kernel_rfl) rfl #[.agg #[.slice A0_0 l0_0.length c0_0, .slice A0_1 l0_1.length c0_1, .slice A0_2 l0_2.length c0_2, .slice A0_3 l0_3.length c0_3, .slice A0_4 l0_4.length c0_4]] (by rfl) rfl rfl (by (try simp only [List.map_toArray, List.map_cons, List.map_nil]); first | done | rfl | (simp only [List.length_drop, List.length_take]; rfl)) ?_); (with_reducible refine (arboristref15_Right.calls kj1 _ _ l0_0 _ _ l0_1 _ _ l0_2 _ _ l0_3 _ _ l0_4 t289 _ ?side1 ?side2 ?side3 ?side4 ?side5 ?side6 ?side7 ?side8 ?side9 ?side10 A17.out).mono ?_); ((case side1 => repeat (first | exact (Kd.C_below HR0_0.out HB.out) | (with_reducible refine Kd.C_alloc ?_ _) | (with_reducible refine Kd.C_drewN ?_ _) | (with_reducible refine Kd.C_drew ?_)))); ((case side2 => exact HC0_0.out)); ((case side3 => repeat (first | exact (Kd.C_below HR0_1.out HB.out) | (with_reducible refine Kd.C_alloc ?_ _) | (with_reducible refine Kd.C_drewN ?_ _) | (with_reducible refine Kd.C_drew ?_)))); ((case side4 => exact HC0_1.out)); ((case side5 => repeat (first | exact (Kd.C_below HR0_2.out HB.out) | (with_reducible refine Kd.C_alloc ?_ _) | (with_reducible refine Kd.C_drewN ?_ _) | (with_reducible refine Kd.C_drew ?_)))); ((case side6 => exact HC0_2.out)); ((case side7 => repeat (first | exact (Kd.C_below HR0_3.out HB.out) | (with_reducible refine Kd.C_alloc ?_ _) | (with_reducible refine Kd.C_drewN ?_ _) | (with_reducible refine Kd.C_drew ?_)))); ((case side8 => exact HC0_3.out)); ((case side9 => repeat (first | exact (Kd.C_below HR0_4.out HB.out) | (with_reducible refine Kd.C_alloc ?_ _) | (with_reducible refine Kd.C_drewN ?_ _) | (with_reducible refine Kd.C_drew ?_)))); ((case side10 => exact HC0_4.out)); (rintro e w26 ⟨rfl, hb⟩); (refine ⟨_, rfl, ?_⟩); (have n0_ := qM (qb (g := gb284) (o := .cells #[.slice A0_0 l0_0.length c0_0, .slice A0_1 l0_1.length c0_1, .slice A0_2 l0_2.length c0_2, .slice A0_3 l0_3.length c0_3, .slice A0_4 l0_4.length c0_4] 27 (0, 0)) (by (with_reducible repeat (first | refine qn ?_ _ | refine qd ?_ | refine qa ?_ _)); exact BK284.out) hb))
     (have n1_ := qM (qP (by repeat (first | (with_reducible first | exact HB.out | apply qA | apply qN | apply qD | refine qS ?_ GE284.out) | exact HB.out)) hb)); clear BK284 HB; (have BK284 := n0_); (have HB := n1_); clear n0_ n1_; ((try clear hb)); ((try clear hb2)); ((try clear hk)); ((try clear hi)); (refine hK.out _ _ ⟨(blk_cell BK284.out 0).trans rfl, (blk_cell BK284.out 1).trans rfl, (blk_cell BK284.out 2).trans rfl, (blk_cell BK284.out 3).trans rfl, (blk_cell BK284.out 4).trans rfl⟩ (fun hHeld => ?_)); clear hK K; (refine norm_ (a' := ?_) ?_ ?_); rotate_left; ((show Act.put _ (some 15) _ = _; simp only [Act.put, List.setIfInBounds_toArray, List.set_cons_zero, List.set_cons_succ, i64_w, i32_w]; rfl)); (refine pure_ (i := 4) (N := some 16) (v := ?_) (a' := ?_) #[true, true, true, true, true, false, false, false, false] rfl rfl (any_of HT_.out (by kernel_rfl)) (fun _ _ _ h => h) (Or.inl ⟨by rfl, ?_⟩) ?_ ?_); rotate_left; ((intro w'; go_simp; with_reducible rfl)); rotate_left; ((simp only [Act.put, List.setIfInBounds_toArray, List.set_cons_zero, List.set_cons_succ, i64_w, i32_w]; rfl)); (refine pure_ (i := 5) (N := some 17) (v := ?_) (a' := ?_) #[true, true, true, true, true, true, false, false, false] rfl rfl (any_of HT_.out (by kernel_rfl)) (fun _ _ _ h => h) (Or.inl ⟨by rfl, ?_⟩) ?_ ?_); rotate_left; ((intro w'; go_simp; with_reducible rfl)); rotate_left; ((simp only [Act.put, List.setIfInBounds_toArray, List.set_cons_zero, List.set_cons_succ, i64_w, i32_w]; rfl)); (refine pure_ (i := 6) (N := some 18) (v := undef) (a' := ?_) #[true, true, true, true, true, true, true, false, false] rfl rfl (any_of HT_.out (by kernel_rfl)) (fun _ _ _ h => h) (Or.inr ⟨by rfl, rfl⟩) ?_ ?_); rotate_left; ((simp only [Act.put, List.setIfInBounds_toArray, List.set_cons_zero, List.set_cons_succ, i64_w, i32_w]; rfl)); (refine pure_ (i := 7) (N := some 19) (v := ?_) (a' := ?_) #[true, true, true, true, true, true, true, true, false] rfl rfl (any_of HT_.out (by kernel_rfl)) (fun _ _ _ h => h) (Or.inl ⟨by rfl, ?_⟩) ?_ ?_); rotate_left; ((intro w'; go_simp; with_reducible rfl)); rotate_left; ((simp only [Act.put, List.setIfInBounds_toArray, List.set_cons_zero, List.set_cons_succ, i64_w, i32_w]; rfl)); (refine pure_ (i := 8) (N := some 2) (v := ?_) (a' := ?_) #[true, true, true, true, true, true, true, true, true] rfl rfl (any_of HT_.out (by kernel_rfl)) (fun _ _ _ h => h) (Or.inl ⟨by rfl, ?_⟩) ?_ ?_); rotate_left; ((intro w'; go_simp; with_reducible rfl)); rotate_left; ((simp only [Act.put, List.setIfInBounds_toArray, List.set_cons_zero, List.set_cons_succ, i64_w, i32_w]; rfl))
     (refine done_ (done_of HT_.out (by kernel_rfl)) ?_); (try go_wp2); (go_ret); (exact ⟨by first | rfl | (simp [errW_none, errW_some] <;> rfl) | (simp [*, errW_none, errW_some] <;> rfl), by repeat (first | (with_reducible first | exact HB.out | apply qA | apply qN | apply qD | refine qS ?_ GE284.out) | exact HB.out)⟩)
end Go.Proofs.YtgchidlombijbaaDoor.H
end
section
namespace Go.Proofs.YtgchidlombijbaaDoor.H
open Go.RowKit Go.Proofs.YtgchidlombijbaaDoorW.PrintWords Go.Proofs.YtgchidlombijbaaDoorW.PrintLast Go.Proofs.YtgchidlombijbaaDoorW.PrintMore
set_option linter.unusedVariables false
set_option linter.unusedSimpArgs false
theorem sumL_mem : ∀ (l : List S46), ∀ x ∈ l, x.f1.length ≤ sumL l := by
  intro l
  induction l with
  | nil => intro x h; cases h
  | cons y r ih =>
    intro x h
    simp only [sumL]
    rcases List.mem_cons.1 h with rfl | h
    · omega
    · have := ih x h; omega
section
variable (l0 l1 : List ByteArray) (l2 : List Int) (l3 : List S43) (l4 : List S46)
theorem many_end (n : Int) : ∃ v, (if (l3.length : Int) ≤ 1100 then (if (l0.length : Int) ≤ 300 then (if (l1.length : Int) ≤ 600 then (if (l4.length : Int) ≤ 50 then (some (decide (n ≤ 12000))) else (some false)) else (some false)) else (some false)) else (some false)) = some v ∧ (v = true → l3.length ≤ 1100 ∧ l4.length ≤ 50 ∧ n ≤ 12000) := by
  repeat' split
  · exact ⟨_, rfl, fun h => by simp at h; omega⟩
  all_goals exact ⟨_, rfl, fun h => by cases h⟩
theorem many_l1 (hl4 : ∀ x ∈ l4, ok46 x) : ∀ (rest : List S46) (j : Nat) (n : Int), l4.drop j = rest → j ≤ 50 → 0 ≤ n → n ≤ 288230376151711744 + j * 35184372088832 →
    ∃ k v, arboristlaw15_many.l1 k n (j : Int) l0 l1 l2 l3 l4 = some v ∧ (v = true → l3.length ≤ 1100 ∧ l4.length ≤ 50 ∧ n + sumL rest ≤ 12000) := by
  intro rest
  induction rest with
  | nil =>
    intro j n hd hj hn hn2
    have := drop_nil hd
    obtain ⟨v, hv, hp⟩ := many_end l0 l1 l3 l4 n
    refine ⟨0 + 1, v, ?_, fun h => by have := hp h; simp [sumL]; omega⟩
    simp only [arboristlaw15_many.l1]
    rw [if_neg (by omega)]
    exact hv
  | cons x r ih =>
    intro j n hd hj hn hn2
    obtain ⟨hi, hr, hx⟩ := drop_cons hd
    by_cases h50 : j < 50
    · have hxo := (ok46_iff x).1 (hl4 x (by rw [← hx ⟨0, []⟩]; exact getD_mem hi _))
      have hlen : x.f1.length ≤ 17592186044416 := by have := hxo.2.1; unfold reachBytes at this; omega
      have hw : wrap64 (n + (x.f1.length : Int)) = n + (x.f1.length : Int) := wrap_id (by omega) (by omega)
      obtain ⟨k, v, hv, hp⟩ := ih (j + 1) (n + x.f1.length) hr (by omega) (by omega) (by push_cast; omega)
      refine ⟨k + 1, v, ?_, fun h => by have := hp h; simp [sumL]; omega⟩
      simp only [arboristlaw15_many.l1]
      have e1 : (rd_T46 l4 (j : Int)) = x := by unfold rd_T46; simpa using hx _
      rw [if_pos (by omega), if_pos (by omega), if_pos (by omega), e1, hw, next_i (by omega)]
      exact hv
    · obtain rfl : j = 50 := by omega
      obtain ⟨v, hv, hp⟩ := many_end l0 l1 l3 l4 n
      refine ⟨0 + 1, v, ?_, fun h => by have := hp h; omega⟩
      simp only [arboristlaw15_many.l1]
      rw [if_pos (by omega), if_neg (by omega)]
      exact hv
set_option maxRecDepth 100000 in
theorem many_l0 (hl3 : ∀ x ∈ l3, ok43 x) (hl4 : ∀ x ∈ l4, ok46 x) : ∀ (rest : List S43) (j : Nat) (n : Int), l3.drop j = rest → j ≤ 1100 → 0 ≤ n → n ≤ j * 140737488355328 →
    ∃ k v, arboristlaw15_many.l0 k n (j : Int) l0 l1 l2 l3 l4 = some v ∧ (v = true → l3.length ≤ 1100 ∧ l4.length ≤ 50 ∧ n + sumL l4 ≤ 12000) := by
  intro rest
  induction rest with
  | nil =>
    intro j n hd hj hn hn2
    have := drop_nil hd
    obtain ⟨k, v, hv, hp⟩ := many_l1 l0 l1 l2 l3 l4 hl4 l4 0 n rfl (by omega) hn (by omega)
    refine ⟨k + 2, v, ?_, hp⟩
    simp only [arboristlaw15_many.l0]
    rw [if_neg (by omega)]
    simp only [arboristlaw15_many.j1]
    exact hv
  | cons x r ih =>
    intro j n hd hj hn hn2
    obtain ⟨hi, hr, hx⟩ := drop_cons hd
    by_cases h50 : j < 1100
    · have hxo := (ok43_iff x).1 (hl3 x (by rw [← hx ⟨0, [], [], ⟨#[]⟩, 0⟩]; exact getD_mem hi _))
      have hlen : x.f1.length ≤ 17592186044416 := by have := hxo.2.1.1; unfold reachBytes at this; omega
      have hlen2 : x.f2.length ≤ 17592186044416 := by have := hxo.2.2.1.1; unfold reachBytes at this; omega
      have hw1 : wrap64 ((x.f1.length : Int) + (x.f2.length : Int)) = (x.f1.length : Int) + (x.f2.length : Int) := wrap_id (by omega) (by omega)
      have hw : wrap64 (n + ((x.f1.length : Int) + (x.f2.length : Int))) = n + ((x.f1.length + x.f2.length : Nat) : Int) := by rw [wrap_id (by omega) (by omega)]; push_cast; rfl
      obtain ⟨k, v, hv, hp⟩ := ih (j + 1) (n + ((x.f1.length + x.f2.length : Nat) : Int)) hr (by omega) (by omega) (by push_cast; omega)
      refine ⟨k + 1, v, ?_, fun h => by have := hp h; omega⟩
      simp only [arboristlaw15_many.l0]
      have e1 : (rd_T43 l3 (j : Int)) = x := by unfold rd_T43; simpa using hx _
      rw [if_pos (by omega), if_pos (by omega), if_pos (by omega), e1, hw1, hw, next_i (by omega)]
      exact hv
    · obtain rfl : j = 1100 := by omega
      obtain ⟨k, v, hv, hp⟩ := many_l1 l0 l1 l2 l3 l4 hl4 l4 0 n rfl (by omega) hn (by omega)
      refine ⟨k + 2, v, ?_, hp⟩
      simp only [arboristlaw15_many.l0]
      rw [if_pos (by omega), if_neg (by omega)]
      simp only [arboristlaw15_many.j1]
      exact hv
end
theorem Pure.GrammarRight (x : S27) (hx : ok27 x) : ∃ k, arboristlaw15_GrammarRight.f k x.f0 x.f1 x.f2 x.f3 x.f4 = some true := by
  obtain ⟨k0, v, hv, hp⟩ := few_ends x hx
  obtain ⟨l0, l1, l2, l3, l4⟩ := x
  simp only at *
  have h := (ok27_iff _).1 hx
  simp only at h
  have hk : ∃ q, arboristlaw15_knows.f q = some true := ⟨30, knows_true⟩
  obtain ⟨q, hq⟩ := hk
  have hj1 : ∃ k, arboristlaw15_GrammarRight.j0 k true l0 l1 l2 l3 l4 = some true := by
    refine ⟨q + 1, ?_⟩
    simp only [arboristlaw15_GrammarRight.j0, if_true]
    rw [hq]; rfl
  have hj0 : l3.length ≤ 1100 → (∀ x ∈ l4, x.f1.length ≤ 1000000) → ∃ k, arboristlaw15_GrammarRight.j0 k false l0 l1 l2 l3 l4 = some true := by
    intro h3 h4
    obtain ⟨k1, e1⟩ := right_ends hx h3 h4
    obtain ⟨k2, e2⟩ := rright_ends hx h3
    refine ⟨k1 + k2 + q + 1, ?_⟩
    simp only [arboristlaw15_GrammarRight.j0, Bool.false_eq_true, if_false]
    rw [up (fun k => grammar_Right.mono _ _ _ _ _ k) (by omega : k1 ≤ k1 + k2 + q) e1]
    simp only [Option.bind_some]
    rw [up (fun k => arboristref15_Right.mono _ _ _ _ _ k) (by omega : k2 ≤ k1 + k2 + q) e2]
    simp only [Option.bind_some, if_true]
    rw [up (fun k => arboristlaw15_knows.mono k) (by omega : q ≤ k1 + k2 + q) hq]
    rfl
  have hjm : ∀ b : Bool, ∀ {k m : Nat}, k ≤ m → arboristlaw15_GrammarRight.j0 k b l0 l1 l2 l3 l4 = some true → arboristlaw15_GrammarRight.j0 m b l0 l1 l2 l3 l4 = some true := fun b k m h e => up (fun k => (arboristlaw15_GrammarRight.mono_l k) _ _ _ _ _ _) h e
  cases v with
  | true =>
    have hs := hp rfl
    have hs3 := hs.h3
    have hss := hs.hs
    obtain ⟨k1, e1⟩ := hj0 (by omega) (fun x h => by have := sumL_mem l4 x h; omega)
    refine ⟨k0 + k1, ?_⟩
    unfold arboristlaw15_GrammarRight.f
    rw [up (fun k => arboristref15_Few.mono _ _ _ _ _ _ k) (Nat.le_add_right k0 k1) hv]
    simp only [Option.bind_some, if_true]
    exact hjm _ (Nat.le_add_left k1 k0) e1
  | false =>
    obtain ⟨k2, m, hm, hmp⟩ := many_l0 l0 l1 l2 l3 l4 h.2.2.2.1.2 h.2.2.2.2.2 l3 0 0 rfl (by omega) (by omega) (by omega)
    have hm' : arboristlaw15_many.f k2 l0 l1 l2 l3 l4 = some m := by unfold arboristlaw15_many.f; exact hm
    have hfin : ∃ k1, arboristlaw15_GrammarRight.j0 k1 (!m) l0 l1 l2 l3 l4 = some true := by
      cases m with
      | false => exact hj1
      | true =>
        have := hmp rfl
        exact hj0 this.1 (fun x h => by have := sumL_mem l4 x h; omega)
    obtain ⟨k1, e1⟩ := hfin
    refine ⟨k0 + k1 + k2, ?_⟩
    unfold arboristlaw15_GrammarRight.f
    rw [up (fun k => arboristref15_Few.mono _ _ _ _ _ _ k) (by omega) hv]
    simp only [Option.bind_some, Bool.false_eq_true, if_false]
    rw [up (fun k => arboristlaw15_many.mono _ _ _ _ _ k) (by omega : k2 ≤ k0 + k1 + k2) hm']
    simp only [Option.bind_some]
    exact hjm _ (by omega : k1 ≤ k0 + k1 + k2) e1
end Go.Proofs.YtgchidlombijbaaDoor.H
end
section
namespace Go.Proofs.YtgchidlombijbaaDoor.H.grammarRight
open Go.ChangeShapes Go.WideShapes Go.ChangeAt Go.RowKit Go.Proofs.YtgchidlombijbaaDoorW.PrintWords Go.Proofs.YtgchidlombijbaaDoorW.PrintLast Go.Proofs.YtgchidlombijbaaDoorW.PrintMore
open Go.ChangeMaps (open_string shut_string)
set_option linter.unusedVariables false
set_option linter.unusedSimpArgs false
theorem own : ownKnob Tryd.prog.godebug = none := by kernel_rfl
theorem laidOut : laidOutB Tryd.prog = true := by kernel_rfl
noncomputable def laidWorld (os : Os) : World := { World.holding Tryd.prog os ⟨#[], #[], []⟩ with heap := ((((World.holding Tryd.prog os ⟨#[], #[], []⟩).heap).modify 2 (fun | .cells _ t frozen => .cells (([0, 1, 28, 2, 29, 14, 24, 3, 30, 22, 20, 15, 25, 17, 4, 8, 31, 27, 13, 23, 21, 19, 16, 7, 26, 12, 18, 6, 11, 5, 10, 9] : List Int).map fun z => Value.int .u8 z).toArray t frozen | o => o)).modify 3 (fun | .cells _ t frozen => .cells (([0, 1, 56, 2, 57, 49, 28, 3, 61, 58, 42, 50, 38, 29, 17, 4, 62, 47, 59, 36, 45, 43, 51, 22, 53, 39, 33, 30, 24, 18, 12, 5, 63, 55, 48, 27, 60, 41, 37, 16, 46, 35, 44, 21, 52, 32, 23, 11, 54, 26, 40, 15, 34, 20, 31, 10, 25, 14, 19, 9, 13, 8, 7, 6] : List Int).map fun z => Value.int .u8 z).toArray t frozen | o => o)).modify 1 (fun | .cells _ t frozen => .cells (([1, 10, 100, 1000, 10000, 100000, 1000000, 10000000, 100000000, 1000000000, 10000000000, 100000000000, 1000000000000, 10000000000000, 100000000000000, 1000000000000000, 10000000000000000, 100000000000000000, 1000000000000000000, 10000000000000000000] : List Int).map fun z => Value.int .u64 z).toArray t frozen | o => o) }
set_option maxRecDepth 100000 in
theorem laid_met (os : Os) (args : Array Value) : laidMet Tryd.prog Rows.grammarRightRow.laid ((laidWorld os).forCall (fun _ _ => 0) ⟨#[], args, []⟩).memory := laidMet_of_run' 8 (by kernel_rfl) (by kernel_rfl)
set_option maxRecDepth 100000 in
theorem witness_row (os : Os) {H : Type} (enc : TypeId × Value → H) :
    (OpenSpec.ofChange Rows.grammarRightSpec).preRow enc Tryd.prog Tryd.f3 Rows.grammarRightRow.domain false Rows.grammarRightRow.laid ((laidWorld os).forCall (fun _ _ => 0) ⟨#[], #[.agg #[.slice none 0 0, .slice none 0 0, .slice none 0 0, .slice none 0 0, .slice none 0 0]], []⟩).memory #[.agg #[.slice none 0 0, .slice none 0 0, .slice none 0 0, .slice none 0 0, .slice none 0 0]] := by
  have hw : (DataW.whole enc Tryd.prog ((laidWorld os).forCall (fun _ _ => 0) ⟨#[], #[.agg #[.slice none 0 0, .slice none 0 0, .slice none 0 0, .slice none 0 0, .slice none 0 0]], []⟩).memory Tryd.f3.params.toList (OpenSpec.ofChange Rows.grammarRightSpec).vars false (#[.agg #[.slice none 0 0, .slice none 0 0, .slice none 0 0, .slice none 0 0, .slice none 0 0]] : Array Value).toList 8).map (fun x => (x.1, x.2.1)) =
      some ([.agg [.nil, .nil, .nil, .nil, .nil]], []) := by kernel_rfl
  obtain ⟨⟨x1, x2, x3⟩, hx, hx1⟩ := Option.map_eq_some_iff.1 hw
  simp only [Prod.mk.injEq] at hx1
  obtain ⟨rfl, rfl⟩ := hx1
  exact OpenSpec.preRow_of_cond 8 hx (by kernel_rfl) (fun k hk => by cases hk) (by kernel_rfl) (laid_met os _)
set_option maxRecDepth 100000 in
set_option maxHeartbeats 2000000 in
theorem lifted (os : Os) (started : os.Started) (H : Type) (enc : TypeId × Value → H) (F : Stop.Interp) :
    ReturnsInHanded {} Tryd.checked os 3 .any ((OpenSpec.ofChange Rows.grammarRightSpec).preRow enc Tryd.prog Tryd.f3 Rows.grammarRightRow.domain false Rows.grammarRightRow.laid) (((OpenSpec.ofChange Rows.grammarRightSpec).at F).post enc Tryd.prog Tryd.f3 false true false false) := by
  refine returnsInHanded_of_row (C := Tryd.checked) (s := (OpenSpec.ofChange Rows.grammarRightSpec)) own started (by kernel_rfl) Tryd.func3
    (witness_row_at (enc := enc) (C := Tryd.checked) false (laidWorld os) #[.agg #[.slice none 0 0, .slice none 0 0, .slice none 0 0, .slice none 0 0, .slice none 0 0]] rfl (by kernel_rfl) (by kernel_rfl) (by kernel_rfl) (witness_row os enc)) ?_
  intro W base args ds gs before hval0 hW _ hcond0 hsz0 hL hsh _
  have hsz : (DataW.weightsEach Tryd.prog (Tryd.f3.params.toList ++ (OpenSpec.ofChange Rows.grammarRightSpec).bare.plain.varTypes Tryd.prog) (ds ++ gs)).all (· ≤ reachBytes) = true := hsz0
  have hval : ∀ (j : Nat) t v, Tryd.f3.params[j]? = some t → args[j]? = some v → Value.okWide Tryd.prog W .any base t v := hval0
  have hW' := hW
  obtain ⟨p, q, hA0, hV0, rfl, _, _⟩ := hW
  have hA : DataW.TrodAll enc Tryd.prog W 0 (fun _ => true) true Tryd.f3.params.toList args.toList ds p := hA0
  rw [Tryd.params3] at hA hval hsz
  obtain ⟨v0, vs0, d0, ds0, p0, q0, hargs, rfl, rfl, h0, r0⟩ := trodAll_cons hA
  obtain ⟨rfl, rfl, rfl⟩ := trodAll_nil r0
  obtain rfl : args = #[v0] := by cases args; simp_all
  obtain ⟨rfl, rfl⟩ := trodVars_none hV0
  have hlt : ∀ x ∈ p0 ++ ([]), x.block < W.heap.size := fun x hx => by simpa using hW'.lt x (by simpa using hx)
  obtain ⟨c0, rfl, hc0⟩ := okWide_struct Tryd.underlying27 (hval 0 27 v0 rfl rfl)
  obtain ⟨a0, hK0, ok0_⟩ := Opens.of opens_k27 hsz (j := 0) (t := 27) rfl rfl h0
  obtain ⟨A0_0, c0_0, A0_1, c0_1, A0_2, c0_2, A0_3, c0_3, A0_4, c0_4, e0_, l0_0, g0_0, l0_1, g0_1, l0_2, g0_2, l0_3, g0_3, l0_4, g0_4⟩ := k27_open hK0
  obtain rfl : c0 = #[.slice A0_0 a0.f0.length c0_0, .slice A0_1 a0.f1.length c0_1, .slice A0_2 a0.f2.length c0_2, .slice A0_3 a0.f3.length c0_3, .slice A0_4 a0.f4.length c0_4] := by cases c0; simp_all [Value.cells]
  have hgw : GW W := gw_of_laid (hL.tail.tail)
  clear hcond0 hsz0 hA0 hV0 hval0
  obtain ⟨k, hf⟩ := Pure.GrammarRight a0 ok0_
  refine (arboristlaw15_GrammarRight.calls k _ _ a0.f0 _ _ a0.f1 _ _ a0.f2 _ _ a0.f3 _ _ a0.f4 true W hgw g0_0 l0_0 g0_1 l0_1 g0_2 l0_2 g0_3 l0_3 g0_4 l0_4 hf).mono fun e W' ⟨he, bel⟩ => ?_
  subst he
  exact ⟨_, rfl, _, _, _, [], _, [], hW', trodAll_mk1 (shut_bool Tryd.underlying4 _), (trodAll_cons_mk (Below.trod laidOut (by kernel_rfl) (of_decide_eq_true (by kernel_rfl)) h0 bel (fun x hx => hlt x (by simp [hx]))) trodAll_mk0), rfl, bel.frame _, fun h => by cases h⟩
set_option maxRecDepth 100000 in
theorem holds : Rows.grammarRightRow.holds Tryd.pinned (OpenSpec.ofChange Rows.grammarRightSpec) :=
  OpenClaim.holds_of_cond 3 Tryd.f3 rfl rfl rfl rfl rfl rfl rfl ⟨rfl, rfl, rfl, rfl, rfl⟩ rfl rfl rfl rfl rfl (by kernel_rfl) Tryd.func3 (by kernel_rfl)
    (of_decide_eq_true (by kernel_rfl)) (by unfold Func.isWrapper; first | (rw [if_pos (by decide +kernel)]; kernel_rfl) | (rw [if_neg (by decide +kernel)]; exact ⟨rfl, rfl⟩))
    (fun os started H enc _ F0 => by rw [OpenClaim.pre_eq_preRow]; exact lifted os started H enc F0)
set_option maxRecDepth 100000 in
theorem card : Rows.GrammarRightCardSaid :=
  Claim7.holds_tied_plain_at .later [] [.data, .data, .data] true (true, "d037e9e997175c81b12203cd1722279b208e9716b3359586d834d934b320b78c") false
    holds (fun _ h => by cases h) (by kernel_rfl) (fun _ h => by cases h) grammarRight_row_tie rfl ⟨rfl, rfl⟩ (by kernel_rfl) rfl
    (fun f fn hf hfn => by
      obtain rfl : f = 3 := Option.some.inj ((show Tryd.prog.funcNamed "arborist/arboristlaw15.GrammarRight" = some 3 by kernel_rfl).symm.trans hf) |>.symm
      obtain rfl : fn = Tryd.f3 := (Option.some.inj (Tryd.func3.symm.trans hfn)).symm
      exact ⟨by kernel_rfl, fun j t ht => by
        rw [Tryd.params3] at ht
        rcases j with _ | j
        · obtain rfl : t = 27 := by simpa using ht.symm
          kernel_rfl
        · simp at ht⟩)
    (by kernel_rfl)
#print axioms card
end Go.Proofs.YtgchidlombijbaaDoor.H.grammarRight
namespace Go.Proofs.YtgchidlombijbaaDoor
theorem grammarRight_card : Rows.GrammarRightCardSaid := H.grammarRight.card
#print axioms grammarRight_card
end Go.Proofs.YtgchidlombijbaaDoor
end
