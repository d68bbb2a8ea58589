/- A part (4 of 7) of this proof: For every grammar and tree that the guards let in and whose bulk lies within the bound, CstRight returns true: Right and Show of package cst agree with the reference. -/
import Derived.Test.YtphmgaijkdflnaaDoorZr3
section
namespace Go.Proofs.YtphmgaijkdflnaaDoor.H
open Go.RowKit
set_option linter.unusedVariables false
set_option linter.unusedSimpArgs false
set_option maxHeartbeats 8000000
set_option maxRecDepth 100000
section
open Go.Proofs.YtphmgaijkdflnaaDoorW.PrintWords Go.Proofs.YtphmgaijkdflnaaDoorW.PrintLast Go.Proofs.YtphmgaijkdflnaaDoorW.PrintMore
attribute [local go_sem] max2_int min2_int max_two min_two max_three min_three max_four min_four
mutual
def arboristref15_levels.l0 : Nat → List Bool → Int → List ByteArray → List ByteArray → List Int → List (S58) → List (S61) → Option (Bool)
 | 0, _, _, _, _, _, _, _ => none
 | k + 1, x3, x4, x228000, x228001, x228002, x228003, x228004 => if x4 < (x228004.length : Int) then (if 0 ≤ x4 then (if ((rd_T61 x228004 x4).f0) < 1 then (arboristref15_levels.j1 k x3 x4 true x228000 x228001 x228002 x228003 x228004 ((rd_T61 x228004 x4).f0) ((rd_T61 x228004 x4).f1)) else (arboristref15_levels.j1 k x3 x4 (decide (((rd_T61 x228004 x4).f0) > 4)) x228000 x228001 x228002 x228003 x228004 ((rd_T61 x228004 x4).f0) ((rd_T61 x228004 x4).f1))) else (none)) else (some true)
def arboristref15_levels.j1 : Nat → List Bool → Int → Bool → List ByteArray → List ByteArray → List Int → List (S58) → List (S61) → Int → List Int → Option (Bool)
 | 0, _, _, _, _, _, _, _, _, _, _ => none
 | k + 1, x3, x4, x31, x228000, x228001, x228002, x228003, x228004, x233000, x233001 => if x31 = true then (some false) else (arboristref15_levels.l1 k x3 x4 0 x228000 x228001 x228002 x228003 x228004 x233000 x233001)
def arboristref15_levels.l1 : Nat → List Bool → Int → Int → List ByteArray → List ByteArray → List Int → List (S58) → List (S61) → Int → List Int → Option (Bool)
 | 0, _, _, _, _, _, _, _, _, _, _ => none
 | k + 1, x3, x4, x6, x228000, x228001, x228002, x228003, x228004, x233000, x233001 => if x6 < (x233001.length : Int) then (if 0 ≤ x6 then (if (rd x233001 x6) < 2 then (some false) else (if (rd x233001 x6) ≥ (x228000.length : Int) then (some false) else (if 0 ≤ (rd x233001 x6) then (if (rd x233001 x6) < (x3.length : Int) then (if rdOf false x3 (rd x233001 x6) = true then (some false) else (arboristref15_levels.l1 k (x3.set ((rd x233001 x6) : Int).toNat true) x4 (wrap64 (x6 + 1)) x228000 x228001 x228002 x228003 x228004 x233000 x233001)) else (none)) else (none)))) else (none)) else (arboristref15_levels.l0 k x3 (wrap64 (x4 + 1)) x228000 x228001 x228002 x228003 x228004)
end
def arboristref15_levels.f (k : Nat) (l0_0 : List ByteArray) (l0_1 : List ByteArray) (l0_2 : List Int) (l0_3 : List (S58)) (l0_4 : List (S61)) : Option (Bool) := if 0 ≤ (l0_0.length : Int) then (if ((l0_0.length : Int) : Int).toNat ≤ 281474976710656 then (arboristref15_levels.l0 k (List.replicate ((l0_0.length : Int) : Int).toNat false) 0 l0_0 l0_1 l0_2 l0_3 l0_4) else (none)) else (none)
theorem arboristref15_levels.mono_l : ∀ k, (∀ y0 y1 y2 y3 y4 y5 y6, LeO (arboristref15_levels.l0 k y0 y1 y2 y3 y4 y5 y6) (arboristref15_levels.l0 (k + 1) y0 y1 y2 y3 y4 y5 y6)) ∧ (∀ y0 y1 y2 y3 y4 y5 y6 y7 y8 y9, LeO (arboristref15_levels.j1 k y0 y1 y2 y3 y4 y5 y6 y7 y8 y9) (arboristref15_levels.j1 (k + 1) y0 y1 y2 y3 y4 y5 y6 y7 y8 y9)) ∧ (∀ y0 y1 y2 y3 y4 y5 y6 y7 y8 y9, LeO (arboristref15_levels.l1 k y0 y1 y2 y3 y4 y5 y6 y7 y8 y9) (arboristref15_levels.l1 (k + 1) y0 y1 y2 y3 y4 y5 y6 y7 y8 y9))
 | 0 => ⟨fun _ _ _ _ _ _ _ r h => by simp [arboristref15_levels.l0] at h, fun _ _ _ _ _ _ _ _ _ _ r h => by simp [arboristref15_levels.j1] at h, fun _ _ _ _ _ _ _ _ _ _ r h => by simp [arboristref15_levels.l1] at h⟩
 | k + 1 => by
  obtain ⟨ih0, ih1, ih2⟩ := arboristref15_levels.mono_l k; refine ⟨?_, ?_, ?_⟩
  ·intro y0 y1 y2 y3 y4 y5 y6
   (unfold arboristref15_levels.l0); exact qL
  ·intro y0 y1 y2 y3 y4 y5 y6 y7 y8 y9
   (unfold arboristref15_levels.j1); exact qL
  ·intro y0 y1 y2 y3 y4 y5 y6 y7 y8 y9
   (unfold arboristref15_levels.l1); exact qL
theorem arboristref15_levels.mono : ∀ a0 a1 a2 a3 a4 k, LeO (arboristref15_levels.f k a0 a1 a2 a3 a4) (arboristref15_levels.f (k + 1) a0 a1 a2 a3 a4) := by
 (intro a0 a1 a2 a3 a4 k); obtain ⟨ih0, ih1, ih2⟩ := arboristref15_levels.mono_l k; (unfold arboristref15_levels.f); exact qL
theorem arboristref15_levels.calls (k : Nat) (A0_0 : Option Addr) (c0_0 : Nat) (l0_0 : List ByteArray) (A0_1 : Option Addr) (c0_1 : Nat) (l0_1 : List ByteArray) (A0_2 : Option Addr) (c0_2 : Nat) (l0_2 : List Int) (A0_3 : Option Addr) (c0_3 : Nat) (l0_3 : List (S58)) (A0_4 : Option Addr) (c0_4 : Nat) (l0_4 : List (S61)) (r : Bool) (w : World) (hr0_0 : Kd.C Kd.string w A0_0 l0_0.length l0_0) (hc0_0 : l0_0.length ≤ c0_0) (hr0_1 : Kd.C Kd.string w A0_1 l0_1.length l0_1) (hc0_1 : l0_1.length ≤ c0_1) (hr0_2 : Kd.C (Kd.int .i64) w A0_2 l0_2.length l0_2) (hc0_2 : l0_2.length ≤ c0_2) (hr0_3 : Kd.C k58 w A0_3 l0_3.length l0_3) (hc0_3 : l0_3.length ≤ c0_3) (hr0_4 : Kd.C k61 w A0_4 l0_4.length l0_4) (hc0_4 : l0_4.length ≤ c0_4) (h : arboristref15_levels.f k l0_0 l0_1 l0_2 l0_3 l0_4 = some r) :
  Calls Tryd.prog 61 #[.agg #[.slice A0_0 l0_0.length c0_0, .slice A0_1 l0_1.length c0_1, .slice A0_2 l0_2.length c0_2, .slice A0_3 l0_3.length c0_3, .slice A0_4 l0_4.length c0_4]] w fun e w' => e = .returned (.bool r) ∧ Below w.heap.size w w' := by
 have hu40 := Tryd.underlying40; have hu61 := Tryd.underlying61; have HR0_0 := qM hr0_0; have HC0_0 := qM hc0_0; clear hr0_0 hc0_0; have HR0_1 := qM hr0_1; have HC0_1 := qM hc0_1; clear hr0_1 hc0_1; have HR0_2 := qM hr0_2; have HC0_2 := qM hc0_2; clear hr0_2 hc0_2; have HR0_3 := qM hr0_3; have HC0_3 := qM hc0_3; clear hr0_3 hc0_3; have HR0_4 := qM hr0_4; have HC0_4 := qM hc0_4; clear hr0_4 hc0_4; have HB := qM (Below.refl w.heap.size w); have H : (if 0 ≤ (l0_0.length : Int) then (if ((l0_0.length : Int) : Int).toNat ≤ 281474976710656 then (arboristref15_levels.l0 k (List.replicate ((l0_0.length : Int) : Int).toNat false) 0 l0_0 l0_1 l0_2 l0_3 l0_4) else (none)) else (none)) = some r := h; clear h; refine iteM ?_ H; clear H; (intro c2 H); have c2b0 := eq_true c2; have c2b1 := decide_eq_true c2; clear c2; refine iteM ?_ H; clear H; (intro c3 H); have c3b0 := eq_true c3; have c3b1 := decide_eq_true c3; clear c3; obtain ⟨y228, hy228⟩ : ∃ y_ : List Bool, y_ = (List.replicate ((l0_0.length : Int) : Int).toNat false) := ⟨_, rfl⟩; (replace H : (arboristref15_levels.l0 k y228 0 l0_0 l0_1 l0_2 l0_3 l0_4) = some r := by first | (rw [hy228]; with_reducible exact H) | (have H2_ := (Option.bind_some _ _).symm.trans H; rw [hy228]; with_reducible exact H2_) | (have H2_ := (Option.bind_some _ _).symm.trans H; with_reducible exact H2_) | with_reducible exact H | (rw [hy228]; exact H) | exact H); have Ny228 := qM hy228; clear hy228; have H' := qM H; clear H; (go_enter Tryd.func61, Tryd.ntmps61)
 go_wp2_with (first | ((with_reducible refine gate_dst (N := 1) rfl ?_); (try (refine gate_guard (by rfl) ?_; dsimp only)); refine box_event ?hg (N := 1) ?hd (cs := #[.slice A0_0 l0_0.length c0_0, .slice A0_1 l0_1.length c0_1, .slice A0_2 l0_2.length c0_2, .slice A0_3 l0_3.length c0_3, .slice A0_4 l0_4.length c0_4]) (t := 40) ?hr ?_; (case hd | hg => rfl); (case hr => first | (go_simp; done) | (go_simp; rfl)); intro gb227 hg w4 hbox hb; have BK227 := qM (hbox); have GW227 := qM (qG hg); have GE227 := GW227; replace HB := qM (qP qF hb); clear hb hbox hg; have hz5 := bx5 BK227.out) | ((with_reducible refine gate_dst (N := 11) rfl ?_); (try (refine gate_guard (by rfl) ?_; dsimp only)); refine Kd.R_make Kd.bool _ 4 rfl (N := 11) rfl 99 _ _ rfl (l0_0.length : Int) rfl rfl Tryd.underlying99 (.bool false) 1 info4 rfl (by decide) (by omega) false (ok := fun _ => True) (okp := fun _ => True) rfl (fun _ hk => hk) trivial (qo qX) (Nat.le_trans (Nat.mul_le_mul_right _ (qo qX : (l0_0.length : Int).toNat ≤ 281474976710656)) (by omega)) (Below.refl _ _) (Nat.le_refl _) ?_; intro v229 w6 ho7 hb hg_ hnew_; clear hg_ hnew_; (first | rw [← Ny228.out] at ho7 | (simp only [Int.reduceToNat] at ho7; rw [← Ny228.out] at ho7)); have HO230 := qM (Kd.R_lower ho7 (qZ qF)); replace BK227 := qM (qb (g := gb227) qK hb); replace HB := qM (qP qF hb); clear hb ho7))
 go_loopg [4] k (fun kq v4 w' => ∃ (x3_1 : List Bool) (x4_1 : Int), v4 = .int .i64 x4_1 ∧ Aside0 (arboristref15_levels.l0 kq x3_1 x4_1 l0_0 l0_1 l0_2 l0_3 l0_4 = some r) ∧ Aside0 (kq ≤ k) ∧ Aside0 (Kd.R Kd.bool 4 w' w.heap.size (fun _ => True) v229 x3_1) ∧ Aside0 (w'.heap[gb227]? = some (.cells #[(.slice A0_0 l0_0.length c0_0), (.slice A0_1 l0_1.length c0_1), (.slice A0_2 l0_2.length c0_2), (.slice A0_3 l0_3.length c0_3), (.slice A0_4 l0_4.length c0_4)] 40 (0, 0))) ∧ Aside0 (Below w.heap.size w w'))
 case atStart => exact ⟨(y228), (0), qV, H', ⟨Nat.le_refl _⟩, ⟨by (with_reducible repeat (first | apply Kd.R_alloc | apply Kd.R_drewN | apply Kd.R_drew)); exact HO230.out⟩, ⟨qK⟩, ⟨qF⟩⟩
 case round =>
  (clear H'); (try clear c2); (try clear c2b0); (try clear c2b1); (try clear p2); (try clear c3); (try clear c3b0); (try clear c3b1); (try clear c6); (try clear hz5); obtain ⟨x3_1, x4_1, rfl, HA, HK1, HO_3, BK227, HB⟩ := hrel
  cases gk with
  | zero => exact absurd HA.out (by simp [arboristref15_levels.l0])
  | succ k1 =>
   have H := HA.out; clear HA; (simp only [arboristref15_levels.l0] at H); have hz11 := bx5 BK227.out; (refine iteD ?_ ?_ H <;> clear H <;> intro c8b0 H)
   ·refine iteN ?_ H
    clear H; (intro c9b0 H); have HC10 := qM H; clear H; have p231 : 0 ≤ (x4_1 : Int) := qo qX; have q231 : x4_1 < (l0_4.length : Int) := qo qX; obtain ⟨ad231, A231_1, c231_1, e231, hx231_0, hx231_1, hl231_1, hi231_1⟩ := at_T61 HR0_4.out x4_1 p231 q231
    cases e231
    replace hx231_0 := qv HB.out hx231_0; replace hx231_1 := qv HB.out hx231_1; have HR231_1 := qM hi231_1; have HC231_1 := qM hl231_1; clear hi231_1 hl231_1; replace p231 := eq_true p231; replace q231 := eq_true q231
    go_upto_region 6 with (first | ((with_reducible refine gate_dst (N := 5) rfl ?_); (try (refine gate_guard (by rfl) ?_; dsimp only)); refine box_event ?hg (N := 5) ?hd (cs := #[.int .i64 0, .slice none 0 0]) (t := 61) ?hr ?_; (case hd | hg => rfl); (case hr => first | (go_simp; done) | (go_simp; rfl)); intro gb232 hg w12 hbox hb; have BK232 := qM (hbox); have GW232 := qM (qG hg); have GE232 := GW232; have NB227_232 := qM ((by rw [hg]; exact Nat.ne_of_lt (ql (g := gb227) qK) : gb227 ≠ gb232)); have NB232_227 := qM (Ne.symm NB227_232.out); replace HO_3 := qM (Kd.R_below (by (with_reducible repeat (first | apply Kd.R_alloc | apply Kd.R_drewN | apply Kd.R_drew)); exact HO_3.out) hb); replace BK227 := qM (qb (g := gb227) qK hb); replace HB := qM (qP qF hb); clear hb hbox hg; have hnb13 := NB232_227.out; have hnc13 := NB227_232.out; have hz14 := bx2 BK232.out))
    (try simp only [Act.put, List.setIfInBounds_toArray, List.set_cons_zero, List.set_cons_succ]); (go_cut [31] (fun v31 wc => ∃ (kq : Nat) (x31_9 : Bool), v31 = .bool x31_9 ∧ Aside0 (arboristref15_levels.j1 kq x3_1 x4_1 x31_9 l0_0 l0_1 l0_2 l0_3 l0_4 ((rd_T61 l0_4 x4_1).f0) ((rd_T61 l0_4 x4_1).f1) = some r) ∧ Aside0 (kq ≤ k1) ∧ Aside0 (Kd.R Kd.bool 4 wc w.heap.size (fun _ => True) v229 x3_1) ∧ Aside0 (wc.heap[gb227]? = some (.cells #[(.slice A0_0 l0_0.length c0_0), (.slice A0_1 l0_1.length c0_1), (.slice A0_2 l0_2.length c0_2), (.slice A0_3 l0_3.length c0_3), (.slice (some ad231) l0_4.length c0_4)] 40 (0, 0))) ∧ Aside0 (wc.heap[gb232]? = some (.cells #[.int .i64 ((rd_T61 l0_4 x4_1).f0), (.slice A231_1 ((rd_T61 l0_4 x4_1).f1).length c231_1)] 61 (0, 0))) ∧ Aside0 (Below w.heap.size w wc)))
    case first =>
     have H := HC10.out; clear HC10; have hnb16 := NB232_227.out; have hnc16 := NB227_232.out; have hz17 := bx2 BK232.out; (refine iteD ?_ ?_ H <;> clear H <;> intro c15b0 H)
     ·(first | rw [c15b0] | (simp only [i64_w, i32_w]; rw [c15b0]) | skip)
      have H' := qM H; clear H; go_wp2; go_meet
      case rel => exact ⟨_, (true), qV, H', ⟨by have := HK1.out; first | omega | exact Nat.le_refl _⟩, ⟨by (with_reducible repeat (first | apply Kd.R_alloc | apply Kd.R_drewN | apply Kd.R_drew)); exact Kd.R_mono (Kd.R_far (p := ⟨gb232, 1, none⟩) (Kd.R_far (p := ⟨gb232, 0, none⟩) (Kd.R_types HO_3.out BK232.out (by decide)) (fun _ hk => hk.2) (.int .i64 ((rd_T61 l0_4 x4_1).f0))) (fun _ hk => hk.2) (.slice A231_1 ((rd_T61 l0_4 x4_1).f1).length c231_1)) (fun _ hk => trivial)⟩, ⟨qK⟩, ⟨by (with_reducible repeat (first | refine qn ?_ _ | refine qd ?_ | refine qa ?_ _)); refine blk_put (cs := #[.int .i64 ((rd_T61 l0_4 x4_1).f0), .slice none 0 0]) ?_ 1 _ rfl; (with_reducible repeat (first | refine qn ?_ _ | refine qd ?_ | refine qa ?_ _)); refine blk_put (cs := #[.int .i64 0, .slice none 0 0]) ?_ 0 _ rfl; (with_reducible repeat (first | refine qn ?_ _ | refine qd ?_ | refine qa ?_ _)); exact BK232.out⟩, ⟨qF⟩⟩
     ·(first | rw [c15b0] | (simp only [i64_w, i32_w]; rw [c15b0]) | skip)
      have H' := qM H; clear H; go_wp2; go_meet
      case rel => exact ⟨_, (decide (((rd_T61 l0_4 x4_1).f0) > 4)), qV, H', ⟨by have := HK1.out; first | omega | exact Nat.le_refl _⟩, ⟨by (with_reducible repeat (first | apply Kd.R_alloc | apply Kd.R_drewN | apply Kd.R_drew)); exact Kd.R_mono (Kd.R_far (p := ⟨gb232, 1, none⟩) (Kd.R_far (p := ⟨gb232, 0, none⟩) (Kd.R_types HO_3.out BK232.out (by decide)) (fun _ hk => hk.2) (.int .i64 ((rd_T61 l0_4 x4_1).f0))) (fun _ hk => hk.2) (.slice A231_1 ((rd_T61 l0_4 x4_1).f1).length c231_1)) (fun _ hk => trivial)⟩, ⟨qK⟩, ⟨by (with_reducible repeat (first | refine qn ?_ _ | refine qd ?_ | refine qa ?_ _)); refine blk_put (cs := #[.int .i64 ((rd_T61 l0_4 x4_1).f0), .slice none 0 0]) ?_ 1 _ rfl; (with_reducible repeat (first | refine qn ?_ _ | refine qd ?_ | refine qa ?_ _)); refine blk_put (cs := #[.int .i64 0, .slice none 0 0]) ?_ 0 _ rfl; (with_reducible repeat (first | refine qn ?_ _ | refine qd ?_ | refine qa ?_ _)); exact BK232.out⟩, ⟨qF⟩⟩
    case rest =>
     clear HC10; (try clear c1); (try clear c2); (try clear c2b0); (try clear c2b1); (try clear p2); (try clear q2); (try clear hx2); (try clear c3); (try clear c3b0); (try clear c3b1); (try clear c6); (try clear c8); (try clear c8b0); (try clear c9); (try clear c9b0); (try clear c13); (try clear c15); (try clear c15b0); (try clear c16); (try clear c18); (try clear hz11); (try clear hz14); (try clear hz17); (try clear hz5); (try clear hx231_0 hx231_1); (try clear p2); (try clear p231); (try clear q231); obtain ⟨kq, x31_9, rfl, HA, HJ9, HO_3, BK227, BK232, HB⟩ := hcut
     cases kq with
     | zero => exact absurd HA.out (by simp [arboristref15_levels.j1])
     | succ kj9 =>
      have H := HA.out; clear HA; (simp only [arboristref15_levels.j1] at H); (refine iteR ?_ ?_ H <;> clear H <;> intro c20 H)
      ·subst c20
       obtain rfl := Option.some.inj H; go_wp2; (go_ret); exact ⟨qE, qF⟩
      ·replace c20 := Bool.eq_false_iff.mpr c20
       subst c20; have H' := qM H; clear H; go_wp2
       go_loopg [6] kj9 (fun kq v6 w' => ∃ (x3_3 : List Bool) (x6_3 : Int), v6 = .int .i64 x6_3 ∧ Aside0 (arboristref15_levels.l1 kq x3_3 x4_1 x6_3 l0_0 l0_1 l0_2 l0_3 l0_4 ((rd_T61 l0_4 x4_1).f0) ((rd_T61 l0_4 x4_1).f1) = some r) ∧ Aside0 (kq ≤ kj9) ∧ Aside0 (Kd.R Kd.bool 4 w' w.heap.size (fun _ => True) v229 x3_3) ∧ Aside0 (w'.heap[gb227]? = some (.cells #[(.slice A0_0 l0_0.length c0_0), (.slice A0_1 l0_1.length c0_1), (.slice A0_2 l0_2.length c0_2), (.slice A0_3 l0_3.length c0_3), (.slice (some ad231) l0_4.length c0_4)] 40 (0, 0))) ∧ Aside0 (w'.heap[gb232]? = some (.cells #[.int .i64 ((rd_T61 l0_4 x4_1).f0), (.slice A231_1 ((rd_T61 l0_4 x4_1).f1).length c231_1)] 61 (0, 0))) ∧ Aside0 (Below w.heap.size w w'))
       case atStart => exact ⟨(x3_1), (0), qV, H', ⟨Nat.le_refl _⟩, ⟨by (with_reducible repeat (first | apply Kd.R_alloc | apply Kd.R_drewN | apply Kd.R_drew)); exact HO_3.out⟩, ⟨qK⟩, ⟨qK⟩, ⟨qF⟩⟩
       case round =>
        (clear H'); (try clear c1); (try clear c2); (try clear c2b0); (try clear c2b1); (try clear p2); (try clear q2); (try clear hx2); (try clear c3); (try clear c3b0); (try clear c3b1); (try clear c6); (try clear c8); (try clear c8b0); (try clear c9); (try clear c9b0); (try clear c13); (try clear c15); (try clear c15b0); (try clear c16); (try clear c18); (try clear c20); (try clear hz11); (try clear hz14); (try clear hz17); (try clear hz5); (try clear hx231_0 hx231_1); (try clear p2); (try clear p231); (try clear q2); (try clear q231); obtain ⟨x3_3, x6_3, rfl, HA, HK3, HO_3, BK227, BK232, HB⟩ := hrel
        cases gk with
        | zero => exact absurd HA.out (by simp [arboristref15_levels.l1])
        | succ k3 =>
         have H := HA.out; clear HA; (simp only [arboristref15_levels.l1] at H); have hnb24 := NB232_227.out; have hnc24 := NB227_232.out; have hz25 := bx2 BK232.out; (refine iteD ?_ ?_ H <;> clear H <;> intro c21b0 H)
         ·refine iteN ?_ H
          clear H; (intro c22b0 H); have p233 : 0 ≤ (x6_3 : Int) := qo qX; have q233 : x6_3 < (((rd_T61 l0_4 x4_1).f1).length : Int) := qo qX; obtain ⟨ad233, e233, hx233_0⟩ := Kd.at_int HR231_1.out x6_3 p233 q233
          cases e233
          replace hx233_0 := qv HB.out hx233_0; replace p233 := eq_true p233; replace q233 := eq_true q233; (refine iteD ?_ ?_ H <;> clear H <;> intro c23b0 H)
          ·obtain rfl := Option.some.inj H
           go_wp2; (go_ret); exact ⟨qE, qF⟩
          ·have hz29 := bx5 BK227.out
           refine iteR ?_ ?_ H <;> clear H <;> intro c26 H
           ·have c26b0 : decide ((l0_0.length : Int) ≤ (rd ((rd_T61 l0_4 x4_1).f1) x6_3)) = true := decide_eq_true c26
            clear c26; obtain rfl := Option.some.inj H; go_wp2; (go_ret); exact ⟨qE, qF⟩
           ·have c26b0 : decide ((l0_0.length : Int) ≤ (rd ((rd_T61 l0_4 x4_1).f1) x6_3)) = false := decide_eq_false c26
            clear c26; refine iteN ?_ H; clear H; (intro c30b0 H); refine iteN ?_ H; clear H; (intro c31b0 H); obtain ⟨bq32, hbq32⟩ : ∃ b_ : Bool, b_ = (rdOf false x3_3 (rd ((rd_T61 l0_4 x4_1).f1) x6_3)) := ⟨_, rfl⟩; (replace H : (if bq32 = true then (some false) else (arboristref15_levels.l1 k3 (x3_3.set ((rd ((rd_T61 l0_4 x4_1).f1) x6_3) : Int).toNat true) x4_1 (wrap64 (x6_3 + 1)) l0_0 l0_1 l0_2 l0_3 l0_4 ((rd_T61 l0_4 x4_1).f0) ((rd_T61 l0_4 x4_1).f1))) = some r := by rw [← hbq32] at H; exact H); have Nbq32 := qM hbq32; clear hbq32; (refine iteR ?_ ?_ H <;> clear H <;> intro c33 H)
            ·subst c33
             obtain rfl := Option.some.inj H; obtain ⟨Ao37, co37, eo37⟩ := Kd.R_slice HO_3.out; subst eo37; have p234 : 0 ≤ ((rd ((rd_T61 l0_4 x4_1).f1) x6_3) : Int) := qo qX; have q234 : (rd ((rd_T61 l0_4 x4_1).f1) x6_3) < (x3_3.length : Int) := qo qX; obtain ⟨ad234, e234, hx234_0⟩ := Kd.at_bool (Kd.R_reads' HO_3.out).2.2 (rd ((rd_T61 l0_4 x4_1).f1) x6_3) p234 q234; (try simp only [← Nbq32.out] at hx234_0)
             cases e234
             replace p234 := eq_true p234; replace q234 := eq_true q234; go_wp2; (go_ret); exact ⟨qE, qF⟩
            ·replace c33 := Bool.eq_false_iff.mpr c33
             subst c33; obtain ⟨y235, hy235⟩ : ∃ y_ : List Bool, y_ = (x3_3.set ((rd ((rd_T61 l0_4 x4_1).f1) x6_3) : Int).toNat true) := ⟨_, rfl⟩; (replace H : (arboristref15_levels.l1 k3 y235 x4_1 (wrap64 (x6_3 + 1)) l0_0 l0_1 l0_2 l0_3 l0_4 ((rd_T61 l0_4 x4_1).f0) ((rd_T61 l0_4 x4_1).f1)) = some r := by first | (rw [hy235]; with_reducible exact H) | (have H2_ := (Option.bind_some _ _).symm.trans H; rw [hy235]; with_reducible exact H2_) | (have H2_ := (Option.bind_some _ _).symm.trans H; with_reducible exact H2_) | with_reducible exact H | (rw [hy235]; exact H) | exact H); have Ny235 := qM hy235; clear hy235; have H' := qM H; clear H; obtain ⟨Ao42, co42, eo42⟩ := Kd.R_slice HO_3.out; subst eo42; have p234 : 0 ≤ ((rd ((rd_T61 l0_4 x4_1).f1) x6_3) : Int) := qo qX; have q234 : (rd ((rd_T61 l0_4 x4_1).f1) x6_3) < (x3_3.length : Int) := qo qX; obtain ⟨ad234, e234, hx234_0⟩ := Kd.at_bool (Kd.R_reads' HO_3.out).2.2 (rd ((rd_T61 l0_4 x4_1).f1) x6_3) p234 q234; (try simp only [← Nbq32.out] at hx234_0)
             cases e234
             replace p234 := eq_true p234; replace q234 := eq_true q234; have p38 : 0 ≤ ((rd ((rd_T61 l0_4 x4_1).f1) x6_3) : Int) := qo qX; have q38 : ((rd ((rd_T61 l0_4 x4_1).f1) x6_3) : Int) < ((x3_3.length : Int) : Int) := qo qX; obtain ⟨go38, co38, eo38, gb38, gl38, cl38, HG38⟩ := Kd.R_form HO_3.out (by omega); (first | cases eo38 | (injection eo38 with ea_ en_ ec_; (first | subst ea_ | (injection ea_ with ea_; subst ea_)); subst ec_; clear en_)); have GB38 := qM gb38; have GG38 := qM HG38; clear gb38 gl38 HG38; (first | simp only [add_plain] at hx234_0 | skip); obtain ⟨hx38_0, hf38_0⟩ := Kd.R_celln false HO_3.out ((rd ((rd_T61 l0_4 x4_1).f1) x6_3) : Int) p38 q38; replace p38 := eq_true p38; replace q38 := eq_true q38; have HP43 := Kd.R_putg HO_3.out ((rd ((rd_T61 l0_4 x4_1).f1) x6_3) : Int) true
             go_wp2_with (first | ((with_reducible refine gate_store (t := 4) (p := 61) rfl ?_); refine store_event (t := 4) (p := 61) (v := ?vo_w44) (w1 := (wr.setCell ⟨go38, ((rd ((rd_T61 l0_4 x4_1).f1) x6_3) : Int).toNat, none⟩ (.bool true))) ?hg ?ho ?hn ?hr ?_; (case ho => rfl); (case hg => rfl); (case hn => rfl); (case hr => first | (go_simp; done) | (go_simp; rfl)); intro w44 hw; have hg : wr.grownBy w44 (some go38) := (by rw [hw]; exact HP43.2); have hp_ : Kd.R Kd.bool 4 w44 w.heap.size (fun _ => True) (.slice (some ⟨go38, 0, none⟩) x3_3.length co42) y235 := (by rw [hw, Ny235.out]; exact HP43.1); clear HP43; replace BK227 := qM (blk_grown (g := gb227) qK hg (Kd.R_ne HO_3.out BK227.out (by decide))); replace BK232 := qM (blk_grown (g := gb232) qK hg (Kd.R_ne HO_3.out BK232.out (by decide))); replace HO_3 := qM (hp_); replace HB := qM ((by rw [hw]; exact qS (HB.out) GB38.out : Below w.heap.size w w44)); clear hg hw hp_))
             go_roundg k3
             case measure => have := HK1.out; have := HJ9.out; have := HK3.out; omega
             case rel => exact ⟨(y235), (wrap64 (x6_3 + 1)), qV, H', ⟨by have := HK1.out; have := HJ9.out; have := HK3.out; omega⟩, ⟨by (with_reducible repeat (first | apply Kd.R_alloc | apply Kd.R_drewN | apply Kd.R_drew)); exact HO_3.out⟩, ⟨qK⟩, ⟨qK⟩, ⟨qF⟩⟩
         ·have H' := qM H
          clear H; go_wp2; (go_roundg k3)
          case measure => have := HK1.out; have := HJ9.out; have := HK3.out; omega
          case rel => exact ⟨(x3_3), (wrap64 (x4_1 + 1)), qV, H', ⟨by have := HK1.out; have := HJ9.out; have := HK3.out; omega⟩, ⟨by (with_reducible repeat (first | apply Kd.R_alloc | apply Kd.R_drewN | apply Kd.R_drew)); exact HO_3.out⟩, ⟨qK⟩, ⟨qF⟩⟩
   ·obtain rfl := Option.some.inj H
    go_wp2; (go_ret); exact ⟨qE, qF⟩
mutual
def arboristref15_Right.j0 : Nat → Bool → List ByteArray → List ByteArray → List Int → List (S58) → List (S61) → Option (Int)
 | 0, _, _, _, _, _, _ => none
 | k + 1, x14, x237000, x237001, x237002, x237003, x237004 => if x14 = true then (some 8) else ((arboristref15_start.f k x237000 x237001 x237002 x237003 x237004).bind fun t240 => (if t240 = true then (some 23) else (arboristref15_Right.l0 k 0 x237000 x237001 x237002 x237003 x237004)))
def arboristref15_Right.l0 : Nat → Int → List ByteArray → List ByteArray → List Int → List (S58) → List (S61) → Option (Int)
 | 0, _, _, _, _, _, _ => none
 | k + 1, x3, x237000, x237001, x237002, x237003, x237004 => if x3 < (x237003.length : Int) then ((arboristref15_rule.f k x237000 x237001 x237002 x237003 x237004 x3).bind fun t241 => (if t241 = 0 then (arboristref15_Right.l0 k (wrap64 (x3 + 1)) x237000 x237001 x237002 x237003 x237004) else (some t241))) else ((arboristref15_levels.f k x237000 x237001 x237002 x237003 x237004).bind fun t242 => (if t242 = true then (some 0) else (some 24)))
end
def arboristref15_Right.f (k : Nat) (l0_0 : List ByteArray) (l0_1 : List ByteArray) (l0_2 : List Int) (l0_3 : List (S58)) (l0_4 : List (S61)) : Option (Int) := (arboristref15_counts.f k l0_0 l0_1 l0_2 l0_3 l0_4).bind fun t237 => (if t237 = true then (some 9) else ((arboristref15_twice.f k l0_0).bind fun t238 => (if t238 = true then (arboristref15_Right.j0 k true l0_0 l0_1 l0_2 l0_3 l0_4) else ((arboristref15_twice.f k l0_1).bind fun t239 => (arboristref15_Right.j0 k t239 l0_0 l0_1 l0_2 l0_3 l0_4)))))
theorem arboristref15_Right.mono_l : ∀ k, (∀ y0 y1 y2 y3 y4 y5, LeO (arboristref15_Right.j0 k y0 y1 y2 y3 y4 y5) (arboristref15_Right.j0 (k + 1) y0 y1 y2 y3 y4 y5)) ∧ (∀ y0 y1 y2 y3 y4 y5, LeO (arboristref15_Right.l0 k y0 y1 y2 y3 y4 y5) (arboristref15_Right.l0 (k + 1) y0 y1 y2 y3 y4 y5))
 | 0 => ⟨fun _ _ _ _ _ _ r h => by simp [arboristref15_Right.j0] at h, fun _ _ _ _ _ _ r h => by simp [arboristref15_Right.l0] at h⟩
 | k + 1 => by
  obtain ⟨ih0, ih1⟩ := arboristref15_Right.mono_l k; refine ⟨?_, ?_⟩
  ·intro y0 y1 y2 y3 y4 y5
   (unfold arboristref15_Right.j0); have mo0 := arboristref15_counts.mono; have mo1 := arboristref15_levels.mono; have mo2 := arboristref15_rule.mono; have mo3 := arboristref15_start.mono; have mo4 := arboristref15_twice.mono; exact qL
  ·intro y0 y1 y2 y3 y4 y5
   (unfold arboristref15_Right.l0); have mo0 := arboristref15_counts.mono; have mo1 := arboristref15_levels.mono; have mo2 := arboristref15_rule.mono; have mo3 := arboristref15_start.mono; have mo4 := arboristref15_twice.mono; exact qL
theorem arboristref15_Right.mono : ∀ a0 a1 a2 a3 a4 k, LeO (arboristref15_Right.f k a0 a1 a2 a3 a4) (arboristref15_Right.f (k + 1) a0 a1 a2 a3 a4) := by
 (intro a0 a1 a2 a3 a4 k); obtain ⟨ih0, ih1⟩ := arboristref15_Right.mono_l k; (unfold arboristref15_Right.f); have mo0 := arboristref15_counts.mono; have mo1 := arboristref15_levels.mono; have mo2 := arboristref15_rule.mono; have mo3 := arboristref15_start.mono; have mo4 := arboristref15_twice.mono; exact qL
theorem arboristref15_Right.calls (k : Nat) (A0_0 : Option Addr) (c0_0 : Nat) (l0_0 : List ByteArray) (A0_1 : Option Addr) (c0_1 : Nat) (l0_1 : List ByteArray) (A0_2 : Option Addr) (c0_2 : Nat) (l0_2 : List Int) (A0_3 : Option Addr) (c0_3 : Nat) (l0_3 : List (S58)) (A0_4 : Option Addr) (c0_4 : Nat) (l0_4 : List (S61)) (r : Int) (w : World) (hr0_0 : Kd.C Kd.string w A0_0 l0_0.length l0_0) (hc0_0 : l0_0.length ≤ c0_0) (hr0_1 : Kd.C Kd.string w A0_1 l0_1.length l0_1) (hc0_1 : l0_1.length ≤ c0_1) (hr0_2 : Kd.C (Kd.int .i64) w A0_2 l0_2.length l0_2) (hc0_2 : l0_2.length ≤ c0_2) (hr0_3 : Kd.C k58 w A0_3 l0_3.length l0_3) (hc0_3 : l0_3.length ≤ c0_3) (hr0_4 : Kd.C k61 w A0_4 l0_4.length l0_4) (hc0_4 : l0_4.length ≤ c0_4) (h : arboristref15_Right.f k l0_0 l0_1 l0_2 l0_3 l0_4 = some r) :
  Calls Tryd.prog 41 #[.agg #[.slice A0_0 l0_0.length c0_0, .slice A0_1 l0_1.length c0_1, .slice A0_2 l0_2.length c0_2, .slice A0_3 l0_3.length c0_3, .slice A0_4 l0_4.length c0_4]] w fun e w' => e = .returned (.int .i64 r) ∧ Below w.heap.size w w' := by
 have hu40 := Tryd.underlying40; have HR0_0 := qM hr0_0; have HC0_0 := qM hc0_0; clear hr0_0 hc0_0; have HR0_1 := qM hr0_1; have HC0_1 := qM hc0_1; clear hr0_1 hc0_1; have HR0_2 := qM hr0_2; have HC0_2 := qM hc0_2; clear hr0_2 hc0_2; have HR0_3 := qM hr0_3; have HC0_3 := qM hc0_3; clear hr0_3 hc0_3; have HR0_4 := qM hr0_4; have HC0_4 := qM hc0_4; clear hr0_4 hc0_4; have HB := qM (Below.refl w.heap.size w); have H : ((arboristref15_counts.f k l0_0 l0_1 l0_2 l0_3 l0_4).bind fun t237 => (if t237 = true then (some 9) else ((arboristref15_twice.f k l0_0).bind fun t238 => (if t238 = true then (arboristref15_Right.j0 k true l0_0 l0_1 l0_2 l0_3 l0_4) else ((arboristref15_twice.f k l0_1).bind fun t239 => (arboristref15_Right.j0 k t239 l0_0 l0_1 l0_2 l0_3 l0_4)))))) = some r := h; clear h; replace H := Option.bind_eq_some_iff.mp H; obtain ⟨t237, A20, H⟩ := H; replace H : (if t237 = true then (some 9) else ((arboristref15_twice.f k l0_0).bind fun t238 => (if t238 = true then (arboristref15_Right.j0 k true l0_0 l0_1 l0_2 l0_3 l0_4) else ((arboristref15_twice.f k l0_1).bind fun t239 => (arboristref15_Right.j0 k t239 l0_0 l0_1 l0_2 l0_3 l0_4))))) = some r := H; have A2 := qM A20; clear A20; (refine iteR ?_ ?_ H <;> clear H <;> intro c3 H)
 ·subst c3
  obtain rfl := Option.some.inj H; (go_enter Tryd.func41, Tryd.ntmps41)
  go_wp2_with (first | ((with_reducible refine gate_dst (N := 1) rfl ?_); refine box_event ?hg (N := 1) ?hd (cs := #[.slice A0_0 l0_0.length c0_0, .slice A0_1 l0_1.length c0_1, .slice A0_2 l0_2.length c0_2, .slice A0_3 l0_3.length c0_3, .slice A0_4 l0_4.length c0_4]) (t := 40) ?hr ?_; (case hd | hg => rfl); (case hr => first | (go_simp; done) | (go_simp; rfl)); intro gb236 hg w4 hbox hb; have BK236 := qM (hbox); have GW236 := qM (qG hg); have GE236 := GW236; replace HB := qM (qP qF hb); clear hb hbox hg; have hz5 := bx5 BK236.out) | ((with_reducible refine gate_callee (f := 57) rfl ?_); refine goesL_ (some 6) rfl rfl Tryd.func57 (by kernel_rfl) rfl #[.agg #[.slice A0_0 l0_0.length c0_0, .slice A0_1 l0_1.length c0_1, .slice A0_2 l0_2.length c0_2, .slice A0_3 l0_3.length c0_3, .slice A0_4 l0_4.length c0_4]] rfl (by (try simp only [List.map_toArray, List.map_cons, List.map_nil]); first | done | rfl | (simp only [List.length_drop, List.length_take]; rfl)) ?_; (with_reducible refine (arboristref15_counts.calls k _ _ l0_0 _ _ l0_1 _ _ l0_2 _ _ l0_3 _ _ l0_4 true _ ?side1 ?side2 ?side3 ?side4 ?side5 ?side6 ?side7 ?side8 ?side9 ?side10 A2.out).mono ?_); (case side1 | side3 | side5 | side7 | side9 => exact qY); (case side2 | side4 | side6 | side8 | side10 => exact qO); rintro e w6 ⟨rfl, hb⟩; refine ⟨_, rfl, ?_⟩; replace BK236 := qM (qb (g := gb236) qK hb); replace HB := qM (qP qF hb); (try clear hb); (try clear hb2); (try clear hk); (try clear hi)))
  (go_ret); exact ⟨qE, qF⟩
 ·replace c3 := Bool.eq_false_iff.mpr c3
  subst c3; have HC7 := qM H; clear H; (go_enter Tryd.func41, Tryd.ntmps41)
  go_upto_region 3 with (first | ((with_reducible refine gate_dst (N := 1) rfl ?_); refine box_event ?hg (N := 1) ?hd (cs := #[.slice A0_0 l0_0.length c0_0, .slice A0_1 l0_1.length c0_1, .slice A0_2 l0_2.length c0_2, .slice A0_3 l0_3.length c0_3, .slice A0_4 l0_4.length c0_4]) (t := 40) ?hr ?_; (case hd | hg => rfl); (case hr => first | (go_simp; done) | (go_simp; rfl)); intro gb236 hg w8 hbox hb; have BK236 := qM (hbox); have GW236 := qM (qG hg); have GE236 := GW236; replace HB := qM (qP qF hb); clear hb hbox hg; have hz9 := bx5 BK236.out) | ((with_reducible refine gate_callee (f := 57) rfl ?_); refine goesL_ (some 6) rfl rfl Tryd.func57 (by kernel_rfl) rfl #[.agg #[.slice A0_0 l0_0.length c0_0, .slice A0_1 l0_1.length c0_1, .slice A0_2 l0_2.length c0_2, .slice A0_3 l0_3.length c0_3, .slice A0_4 l0_4.length c0_4]] rfl (by (try simp only [List.map_toArray, List.map_cons, List.map_nil]); first | done | rfl | (simp only [List.length_drop, List.length_take]; rfl)) ?_; (with_reducible refine (arboristref15_counts.calls k _ _ l0_0 _ _ l0_1 _ _ l0_2 _ _ l0_3 _ _ l0_4 false _ ?side1 ?side2 ?side3 ?side4 ?side5 ?side6 ?side7 ?side8 ?side9 ?side10 A2.out).mono ?_); (case side1 | side3 | side5 | side7 | side9 => exact qY); (case side2 | side4 | side6 | side8 | side10 => exact qO); rintro e w10 ⟨rfl, hb⟩; refine ⟨_, rfl, ?_⟩; replace BK236 := qM (qb (g := gb236) qK hb); replace HB := qM (qP qF hb); (try clear hb); (try clear hb2); (try clear hk); (try clear hi)))
  (try simp only [Act.put, List.setIfInBounds_toArray, List.set_cons_zero, List.set_cons_succ]); (go_cut [14] (fun v14 wc => ∃ (kq : Nat) (x14_6 : Bool), v14 = .bool x14_6 ∧ Aside0 (arboristref15_Right.j0 kq x14_6 l0_0 l0_1 l0_2 l0_3 l0_4 = some r) ∧ Aside0 (kq ≤ k) ∧ Aside0 (wc.heap[gb236]? = some (.cells #[(.slice A0_0 l0_0.length c0_0), (.slice A0_1 l0_1.length c0_1), (.slice A0_2 l0_2.length c0_2), (.slice A0_3 l0_3.length c0_3), (.slice A0_4 l0_4.length c0_4)] 40 (0, 0))) ∧ Aside0 (Below w.heap.size w wc)))
  case first =>
   have H := HC7.out; clear HC7; replace H := Option.bind_eq_some_iff.mp H; obtain ⟨t238, A110, H⟩ := H; replace H : (if t238 = true then (arboristref15_Right.j0 k true l0_0 l0_1 l0_2 l0_3 l0_4) else ((arboristref15_twice.f k l0_1).bind fun t239 => (arboristref15_Right.j0 k t239 l0_0 l0_1 l0_2 l0_3 l0_4))) = some r := H; have A11 := qM A110; clear A110; (refine iteR ?_ ?_ H <;> clear H <;> intro c12 H)
   ·subst c12
    have H' := qM H; clear H; have hz13 := bx5 BK236.out
    go_wp2_with (first | ((with_reducible refine gate_callee (f := 58) rfl ?_); refine goesL_ (some 9) rfl rfl Tryd.func58 (by kernel_rfl) rfl #[.slice A0_0 l0_0.length c0_0] rfl (by (try simp only [List.map_toArray, List.map_cons, List.map_nil]); first | done | rfl | (simp only [List.length_drop, List.length_take]; rfl)) ?_; (with_reducible refine (arboristref15_twice.calls k _ _ l0_0 true _ ?side1 ?side2 A11.out).mono ?_); (case side1 => exact qC HR0_0.out qF); (case side2 => exact HC0_0.out); rintro e w' ⟨rfl, ⟨nd, rfl⟩⟩; refine ⟨_, rfl, ?_⟩))
    go_meet
    case rel => exact ⟨_, (true), qV, H', ⟨by first | omega | exact Nat.le_refl _⟩, ⟨qK⟩, ⟨qF⟩⟩
   ·replace c12 := Bool.eq_false_iff.mpr c12
    subst c12; replace H := Option.bind_eq_some_iff.mp H; obtain ⟨t239, A140, H⟩ := H; replace H : (arboristref15_Right.j0 k t239 l0_0 l0_1 l0_2 l0_3 l0_4) = some r := H; have A14 := qM A140; clear A140; have H' := qM H; clear H; have hz15 := bx5 BK236.out
    go_wp2_with (first | ((with_reducible refine gate_callee (f := 58) rfl ?_); refine goesL_ (some 9) rfl rfl Tryd.func58 (by kernel_rfl) rfl #[.slice A0_0 l0_0.length c0_0] rfl (by (try simp only [List.map_toArray, List.map_cons, List.map_nil]); first | done | rfl | (simp only [List.length_drop, List.length_take]; rfl)) ?_; (with_reducible refine (arboristref15_twice.calls k _ _ l0_0 false _ ?side1 ?side2 A11.out).mono ?_); (case side1 => exact qC HR0_0.out qF); (case side2 => exact HC0_0.out); rintro e w' ⟨rfl, ⟨nd, rfl⟩⟩; refine ⟨_, rfl, ?_⟩) | (go_at_call 58; (with_reducible refine (arboristref15_twice.calls k _ _ l0_1 t239 _ ?side1 ?side2 A14.out).mono ?_); (case side1 => repeat (first | exact (Kd.C_below HR0_1.out qF) | (with_reducible refine Kd.C_alloc ?_ _) | (with_reducible refine Kd.C_drewN ?_ _) | (with_reducible refine Kd.C_drew ?_))); (case side2 => exact HC0_1.out); rintro e w' ⟨rfl, ⟨nd, rfl⟩⟩))
    go_meet
    case rel => exact ⟨_, (t239), qV, H', ⟨by first | omega | exact Nat.le_refl _⟩, ⟨qK⟩, ⟨qF⟩⟩
  case rest =>
   clear HC7; (try clear c1); (try clear p2); (try clear c3); (try clear c4); (try clear c5); (try clear c12); (try clear hz13); (try clear hz15); (try clear hz5); (try clear hz9); obtain ⟨kq, x14_6, rfl, HA, HJ6, BK236, HB⟩ := hcut
   cases kq with
   | zero => exact absurd HA.out (by simp [arboristref15_Right.j0])
   | succ kj6 =>
    have H := HA.out; clear HA; (simp only [arboristref15_Right.j0] at H); (refine iteR ?_ ?_ H <;> clear H <;> intro c16 H)
    ·subst c16
     obtain rfl := Option.some.inj H; go_wp2; (go_ret); exact ⟨qE, qF⟩
    ·replace c16 := Bool.eq_false_iff.mpr c16
     subst c16; replace H := Option.bind_eq_some_iff.mp H; obtain ⟨t240, A170, H⟩ := H; replace H : (if t240 = true then (some 23) else (arboristref15_Right.l0 kj6 0 l0_0 l0_1 l0_2 l0_3 l0_4)) = some r := H; have A17 := qM A170; clear A170; (refine iteR ?_ ?_ H <;> clear H <;> intro c18 H)
     ·subst c18
      obtain rfl := Option.some.inj H; have hz19 := bx5 BK236.out
      go_wp2_with (first | ((with_reducible refine gate_callee (f := 59) rfl ?_); refine goesL_ (some 16) rfl rfl Tryd.func59 (by kernel_rfl) rfl #[.agg #[.slice A0_0 l0_0.length c0_0, .slice A0_1 l0_1.length c0_1, .slice A0_2 l0_2.length c0_2, .slice A0_3 l0_3.length c0_3, .slice A0_4 l0_4.length c0_4]] rfl (by (try simp only [List.map_toArray, List.map_cons, List.map_nil]); first | done | rfl | (simp only [List.length_drop, List.length_take]; rfl)) ?_; (with_reducible refine (arboristref15_start.calls kj6 _ _ l0_0 _ _ l0_1 _ _ l0_2 _ _ l0_3 _ _ l0_4 true _ ?side1 ?side2 ?side3 ?side4 ?side5 ?side6 ?side7 ?side8 ?side9 ?side10 A17.out).mono ?_); (case side1 | side3 | side5 | side7 | side9 => exact qY); (case side2 | side4 | side6 | side8 | side10 => exact qO); rintro e w20 ⟨rfl, hb⟩; refine ⟨_, rfl, ?_⟩; replace BK236 := qM (qb (g := gb236) qK hb); replace HB := qM (qP qF hb); (try clear hb); (try clear hb2); (try clear hk); (try clear hi)))
      (go_ret); exact ⟨qE, qF⟩
     ·replace c18 := Bool.eq_false_iff.mpr c18
      subst c18; have H' := qM H; clear H; have hz21 := bx5 BK236.out
      go_wp2_with (first | ((with_reducible refine gate_callee (f := 59) rfl ?_); refine goesL_ (some 16) rfl rfl Tryd.func59 (by kernel_rfl) rfl #[.agg #[.slice A0_0 l0_0.length c0_0, .slice A0_1 l0_1.length c0_1, .slice A0_2 l0_2.length c0_2, .slice A0_3 l0_3.length c0_3, .slice A0_4 l0_4.length c0_4]] rfl (by (try simp only [List.map_toArray, List.map_cons, List.map_nil]); first | done | rfl | (simp only [List.length_drop, List.length_take]; rfl)) ?_; (with_reducible refine (arboristref15_start.calls kj6 _ _ l0_0 _ _ l0_1 _ _ l0_2 _ _ l0_3 _ _ l0_4 false _ ?side1 ?side2 ?side3 ?side4 ?side5 ?side6 ?side7 ?side8 ?side9 ?side10 A17.out).mono ?_); (case side1 | side3 | side5 | side7 | side9 => exact qY); (case side2 | side4 | side6 | side8 | side10 => exact qO); rintro e w22 ⟨rfl, hb⟩; refine ⟨_, rfl, ?_⟩; replace BK236 := qM (qb (g := gb236) qK hb); replace HB := qM (qP qF hb); (try clear hb); (try clear hb2); (try clear hk); (try clear hi)))
      go_loopg [3] kj6 (fun kq v3 w' => ∃ (x3_2 : Int), v3 = .int .i64 x3_2 ∧ Aside0 (arboristref15_Right.l0 kq x3_2 l0_0 l0_1 l0_2 l0_3 l0_4 = some r) ∧ Aside0 (kq ≤ kj6) ∧ Aside0 (w'.heap[gb236]? = some (.cells #[(.slice A0_0 l0_0.length c0_0), (.slice A0_1 l0_1.length c0_1), (.slice A0_2 l0_2.length c0_2), (.slice A0_3 l0_3.length c0_3), (.slice A0_4 l0_4.length c0_4)] 40 (0, 0))) ∧ Aside0 (Below w.heap.size w w'))
      case atStart => exact ⟨(0), qV, H', ⟨Nat.le_refl _⟩, ⟨qK⟩, ⟨qF⟩⟩
      case round =>
       (clear H'); (try clear c1); (try clear p2); (try clear c3); (try clear c4); (try clear c5); (try clear c12); (try clear c16); (try clear c18); (try clear hz13); (try clear hz15); (try clear hz19); (try clear hz21); (try clear hz5); (try clear hz9); (try clear p2); obtain ⟨x3_2, rfl, HA, HK2, BK236, HB⟩ := hrel
       cases gk with
       | zero => exact absurd HA.out (by simp [arboristref15_Right.l0])
       | succ k2 =>
        have H := HA.out; clear HA; (simp only [arboristref15_Right.l0] at H); (refine iteD ?_ ?_ H <;> clear H <;> intro c23b0 H)
        ·replace H := Option.bind_eq_some_iff.mp H
         obtain ⟨t241, A240, H⟩ := H; replace H : (if t241 = 0 then (arboristref15_Right.l0 k2 (wrap64 (x3_2 + 1)) l0_0 l0_1 l0_2 l0_3 l0_4) else (some t241)) = some r := H; have A24 := qM A240; clear A240; (refine iteE ?_ ?_ H <;> clear H <;> intro c25b0 c25b1 H)
         ·have H' := qM H
          clear H; have hz26 := bx5 BK236.out
          go_wp2_with (first | ((with_reducible refine gate_callee (f := 60) rfl ?_); refine goesL_ (some 26) rfl rfl Tryd.func60 (by kernel_rfl) rfl #[.agg #[.slice A0_0 l0_0.length c0_0, .slice A0_1 l0_1.length c0_1, .slice A0_2 l0_2.length c0_2, .slice A0_3 l0_3.length c0_3, .slice A0_4 l0_4.length c0_4], .int .i64 x3_2] rfl (by (try simp only [List.map_toArray, List.map_cons, List.map_nil]); first | done | rfl | (simp only [List.length_drop, List.length_take]; rfl)) ?_; (with_reducible refine (arboristref15_rule.calls k2 _ _ l0_0 _ _ l0_1 _ _ l0_2 _ _ l0_3 _ _ l0_4 x3_2 t241 _ ?side1 ?side2 ?side3 ?side4 ?side5 ?side6 ?side7 ?side8 ?side9 ?side10 A24.out).mono ?_); (case side1 | side3 | side5 | side7 | side9 => exact qY); (case side2 | side4 | side6 | side8 | side10 => exact qO); rintro e w27 ⟨rfl, hb⟩; refine ⟨_, rfl, ?_⟩; replace BK236 := qM (qb (g := gb236) qK hb); replace HB := qM (qP qF hb); (try clear hb); (try clear hb2); (try clear hk); (try clear hi)))
          go_roundg k2
          case measure => have := HJ6.out; have := HK2.out; omega
          case rel => exact ⟨(wrap64 (x3_2 + 1)), qV, H', ⟨by have := HJ6.out; have := HK2.out; omega⟩, ⟨qK⟩, ⟨qF⟩⟩
         ·intro c25
          obtain rfl := Option.some.inj H; have hz28 := bx5 BK236.out
          go_wp2_with (first | ((with_reducible refine gate_callee (f := 60) rfl ?_); refine goesL_ (some 26) rfl rfl Tryd.func60 (by kernel_rfl) rfl #[.agg #[.slice A0_0 l0_0.length c0_0, .slice A0_1 l0_1.length c0_1, .slice A0_2 l0_2.length c0_2, .slice A0_3 l0_3.length c0_3, .slice A0_4 l0_4.length c0_4], .int .i64 x3_2] rfl (by (try simp only [List.map_toArray, List.map_cons, List.map_nil]); first | done | rfl | (simp only [List.length_drop, List.length_take]; rfl)) ?_; (with_reducible refine (arboristref15_rule.calls k2 _ _ l0_0 _ _ l0_1 _ _ l0_2 _ _ l0_3 _ _ l0_4 x3_2 t241 _ ?side1 ?side2 ?side3 ?side4 ?side5 ?side6 ?side7 ?side8 ?side9 ?side10 A24.out).mono ?_); (case side1 | side3 | side5 | side7 | side9 => exact qY); (case side2 | side4 | side6 | side8 | side10 => exact qO); rintro e w29 ⟨rfl, hb⟩; refine ⟨_, rfl, ?_⟩; replace BK236 := qM (qb (g := gb236) qK hb); replace HB := qM (qP qF hb); (try clear hb); (try clear hb2); (try clear hk); (try clear hi)))
          (go_ret); exact ⟨qE, qF⟩
        ·replace H := Option.bind_eq_some_iff.mp H
         obtain ⟨t242, A300, H⟩ := H; replace H : (if t242 = true then (some 0) else (some 24)) = some r := H; have A30 := qM A300; clear A300; (refine iteR ?_ ?_ H <;> clear H <;> intro c31 H)
         ·subst c31
          obtain rfl := Option.some.inj H; have hz32 := bx5 BK236.out
          go_wp2_with (first | ((with_reducible refine gate_callee (f := 61) rfl ?_); refine goesL_ (some 31) rfl rfl Tryd.func61 (by kernel_rfl) rfl #[.agg #[.slice A0_0 l0_0.length c0_0, .slice A0_1 l0_1.length c0_1, .slice A0_2 l0_2.length c0_2, .slice A0_3 l0_3.length c0_3, .slice A0_4 l0_4.length c0_4]] rfl (by (try simp only [List.map_toArray, List.map_cons, List.map_nil]); first | done | rfl | (simp only [List.length_drop, List.length_take]; rfl)) ?_; (with_reducible refine (arboristref15_levels.calls k2 _ _ l0_0 _ _ l0_1 _ _ l0_2 _ _ l0_3 _ _ l0_4 true _ ?side1 ?side2 ?side3 ?side4 ?side5 ?side6 ?side7 ?side8 ?side9 ?side10 A30.out).mono ?_); (case side1 | side3 | side5 | side7 | side9 => exact qY); (case side2 | side4 | side6 | side8 | side10 => exact qO); rintro e w33 ⟨rfl, hb⟩; refine ⟨_, rfl, ?_⟩; replace BK236 := qM (qb (g := gb236) qK hb); replace HB := qM (qP qF hb); (try clear hb); (try clear hb2); (try clear hk); (try clear hi)))
          (go_ret); exact ⟨qE, qF⟩
         ·replace c31 := Bool.eq_false_iff.mpr c31
          subst c31; obtain rfl := Option.some.inj H; have hz34 := bx5 BK236.out
          go_wp2_with (first | ((with_reducible refine gate_callee (f := 61) rfl ?_); refine goesL_ (some 31) rfl rfl Tryd.func61 (by kernel_rfl) rfl #[.agg #[.slice A0_0 l0_0.length c0_0, .slice A0_1 l0_1.length c0_1, .slice A0_2 l0_2.length c0_2, .slice A0_3 l0_3.length c0_3, .slice A0_4 l0_4.length c0_4]] rfl (by (try simp only [List.map_toArray, List.map_cons, List.map_nil]); first | done | rfl | (simp only [List.length_drop, List.length_take]; rfl)) ?_; (with_reducible refine (arboristref15_levels.calls k2 _ _ l0_0 _ _ l0_1 _ _ l0_2 _ _ l0_3 _ _ l0_4 false _ ?side1 ?side2 ?side3 ?side4 ?side5 ?side6 ?side7 ?side8 ?side9 ?side10 A30.out).mono ?_); (case side1 | side3 | side5 | side7 | side9 => exact qY); (case side2 | side4 | side6 | side8 | side10 => exact qO); rintro e w35 ⟨rfl, hb⟩; refine ⟨_, rfl, ?_⟩; replace BK236 := qM (qb (g := gb236) qK hb); replace HB := qM (qP qF hb); (try clear hb); (try clear hb2); (try clear hk); (try clear hi)))
          (go_ret); exact ⟨qE, qF⟩
end
section
open Go.Proofs.YtphmgaijkdflnaaDoorW.PrintWords Go.Proofs.YtphmgaijkdflnaaDoorW.PrintLast Go.Proofs.YtphmgaijkdflnaaDoorW.PrintMore
section
variable {l0 l1 : List ByteArray} {l2 : List Int} {l3 : List S58} {l4 : List S61}
theorem getD_mem {α : Type} {l : List α} {i : Nat} (hi : i < l.length) (d : α) : l.getD i d ∈ l := by
 rw [List.getD_eq_getElem?_getD, List.getElem?_eq_getElem hi]; exact List.getElem_mem hi
theorem rcounts_l1 (hl3 : l3.length ≤ 1100) (ho3 : ∀ x ∈ l3, ok58 x) : ∀ (rest : List S58) (i : Nat) (n : Nat), l3.drop i = rest → n ≤ i * 17592186044416 → sumF l3 = n + sumF rest →
  ∃ k, arboristref15_counts.l1 k (n : Int) (i : Int) l0 l1 l2 l3 l4 = some (!(decide (1 ≤ l3.length ∧ l3.length ≤ 1024) && (decide (l4.length ≤ 32) && decide (sumF l3 ≤ 8192)))) := by
 intro rest
 induction rest with
 | nil =>
  intro i n hd hn hs
  have := drop_nil hd
  refine ⟨1, ?_⟩
  simp only [arboristref15_counts.l1]
  simp only [sumF, Nat.add_zero] at hs
  rw [if_neg (by omega)]
  by_cases h1 : l3.length < 1
  ·rw [if_pos (by omega), decide_eq_false (show ¬ (1 ≤ l3.length ∧ l3.length ≤ 1024) by omega)]; rfl
  ·rw [if_neg (by omega)]
   by_cases h2 : l3.length > 1024
   ·rw [if_pos (by omega), decide_eq_false (show ¬ (1 ≤ l3.length ∧ l3.length ≤ 1024) by omega)]; rfl
   ·rw [if_neg (by omega)]
    by_cases h3 : l4.length > 32
    ·rw [if_pos (by omega), decide_eq_false (show ¬ l4.length ≤ 32 by omega)]; simp
    ·rw [if_neg (by omega), hs, decide_eq_true (show 1 ≤ l3.length ∧ l3.length ≤ 1024 by omega), decide_eq_true (show l4.length ≤ 32 by omega)]
     simp only [Bool.true_and]
     congr 1
     by_cases h4 : n ≤ 8192
     ·rw [decide_eq_true h4, decide_eq_false (by omega)]; rfl
     ·rw [decide_eq_false h4, decide_eq_true (by omega)]; rfl
 | cons x r ih =>
  intro i n hd hn hs
  obtain ⟨hi, hr, hx⟩ := drop_cons hd
  have e1 : rd_T58 l3 (i : Int) = x := by unfold rd_T58; simpa using hx _
  have hxo := (ok58_iff x).1 (ho3 x (by rw [← hx ⟨0, [], [], ⟨#[]⟩, 0⟩]; exact getD_mem hi _))
  have hlen : x.f1.length ≤ 17592186044416 := by have := hxo.2.1.1; unfold reachBytes at this; omega
  obtain ⟨k, hk⟩ := ih (i + 1) (n + x.f1.length) hr (by omega) (by rw [hs]; simp only [sumF]; omega)
  refine ⟨k + 1, ?_⟩
  simp only [arboristref15_counts.l1]
  rw [if_pos (by omega), if_pos (by omega), e1, next_i (by omega), show wrap64 ((n : Int) + (x.f1.length : Int)) = ((n + x.f1.length : Nat) : Int) from by rw [wrap_id (by omega) (by omega)]; push_cast; rfl, hk]
theorem rcounts_l0 (hl2 : l2.length ≤ 140737488355328) {b : Bool} (h1 : ∃ k, arboristref15_counts.l1 k 0 0 l0 l1 l2 l3 l4 = some (!b)) : ∀ (rest : List Int) (i : Nat), l2.drop i = rest →
  ∃ k, arboristref15_counts.l0 k (i : Int) l0 l1 l2 l3 l4 = some (!(!(rest.any badO) && b)) := by
 intro rest
 induction rest with
 | nil =>
  intro i hd
  have := drop_nil hd
  obtain ⟨k, hk⟩ := h1
  refine ⟨k + 1, ?_⟩
  simp only [arboristref15_counts.l0]
  rw [if_neg (by omega), hk]; rfl
 | cons x r ih =>
  intro i hd
  obtain ⟨hi, hr, hx⟩ := drop_cons hd
  have e1 : rd l2 (i : Int) = x := by unfold rd; simpa using hx _
  obtain ⟨k, hk⟩ := ih (i + 1) hr
  refine ⟨k + 1, ?_⟩
  simp only [arboristref15_counts.l0]
  rw [if_pos (by omega), if_pos (by omega), e1]
  by_cases h1 : x < 0
  ·rw [if_pos h1]; simp [badO, h1]
  ·rw [if_neg h1]
   by_cases h2 : x > 5
   ·rw [if_pos h2]; simp [badO, h2]
   ·rw [if_neg h2, next_i (by omega), hk]; simp [badO, h1, h2]
theorem rcounts_ends (hl2 : l2.length ≤ 140737488355328) (hl3 : l3.length ≤ 1100) (ho3 : ∀ x ∈ l3, ok58 x) : ∃ k, arboristref15_counts.f k l0 l1 l2 l3 l4 = some (!countsS l0 l1 l2 l3 l4) := by
 obtain ⟨k, hk⟩ := rcounts_l0 (l0 := l0) (l1 := l1) (l2 := l2) hl2 (rcounts_l1 (l0 := l0) (l1 := l1) (l2 := l2) (l4 := l4) hl3 ho3 l3 0 0 rfl (by omega) (by omega)) l2 0 rfl
 refine ⟨k + 1, ?_⟩
 have hj : ∀ b : Bool, arboristref15_counts.j0 (k + 1) b l0 l1 l2 l3 l4 = some (!(!b && (!(l2.any badO) && (decide (1 ≤ l3.length ∧ l3.length ≤ 1024) && (decide (l4.length ≤ 32) && decide (sumF l3 ≤ 8192)))))) := by
  intro b
  simp only [arboristref15_counts.j0]
  cases b with
  | true => rfl
  | false => simp only [Bool.false_eq_true, if_false, Bool.not_false, Bool.true_and]; exact hk
 unfold arboristref15_counts.f countsS
 simp only [hj]
 by_cases a1 : l0.length < 2
 ·rw [if_pos (by omega), decide_eq_false (show ¬ (2 ≤ l0.length ∧ l0.length ≤ 256) by omega)]; rfl
 ·rw [if_neg (by omega)]
  by_cases a2 : l0.length > 256
  ·rw [if_pos (by omega), decide_eq_false (show ¬ (2 ≤ l0.length ∧ l0.length ≤ 256) by omega)]; rfl
  ·rw [if_neg (by omega), decide_eq_true (show 2 ≤ l0.length ∧ l0.length ≤ 256 by omega)]
   by_cases a3 : l1.length < 1
   ·rw [if_pos (by omega), decide_eq_false (show ¬ (1 ≤ l1.length ∧ l1.length ≤ 512) by omega)]; rfl
   ·rw [if_neg (by omega)]
    by_cases a4 : l1.length > 512
    ·rw [if_pos (by omega), decide_eq_false (show ¬ (1 ≤ l1.length ∧ l1.length ≤ 512) by omega)]; rfl
    ·rw [if_neg (by omega), decide_eq_true (show 1 ≤ l1.length ∧ l1.length ≤ 512 by omega)]
     have : (!((l2.length : Int) != (l1.length : Int))) = decide (l2.length = l1.length) := by
      by_cases h : l2.length = l1.length
      ·rw [decide_eq_true h, h]; simp
      ·rw [decide_eq_false h]; simp; omega
     rw [this]; rfl
theorem dtl_ne {a b : ByteArray} : (a.toList = b.toList) ↔ a = b := by
 rw [Lib.toList_data, Lib.toList_data]
 exact ⟨ba_ext, fun h => by rw [h]⟩
theorem rtwice_l1 (l : List ByteArray) (hl : l.length ≤ 140737488355328) (i : Nat) (hi : i < l.length) {R : Prop} (h0 : ∃ k v, arboristref15_twice.l0 k l ((i + 1 : Nat) : Int) = some v ∧ (v = true ↔ R)) : ∀ (m j : Nat), i - j = m → j ≤ i →
  ∃ k v, arboristref15_twice.l1 k l (i : Int) (j : Int) = some v ∧ (v = true ↔ (∃ q, j ≤ q ∧ q < i ∧ l[q]? = l[i]?) ∨ R) := by
 intro m
 induction m with
 | zero =>
  intro j hm hj
  obtain rfl : j = i := by omega
  obtain ⟨k, v, hk, hv⟩ := h0
  refine ⟨k + 1, v, ?_, hv.trans ⟨.inr, ?_⟩⟩
  ·simp only [arboristref15_twice.l1]
   rw [if_neg (by omega), next_i (by omega), hk]
  ·rintro (⟨q, h1, h2, _⟩ | h)
   ·omega
   ·exact h
 | succ m ih =>
  intro j hm hj
  by_cases h : l[j]'(by omega) = l[i]
  ·refine ⟨0 + 1, true, ?_, ⟨fun _ => .inl ⟨j, Nat.le_refl _, by omega, ?_⟩, fun _ => rfl⟩⟩
   ·simp only [arboristref15_twice.l1]
    rw [if_pos (by omega), if_pos (by omega), if_pos (by omega), if_pos (by omega), if_pos (by omega), rdOf_nat _ _ _ (show j < l.length by omega), rdOf_nat _ _ _ hi, if_pos (dtl_ne.2 h)]
   ·rw [List.getElem?_eq_getElem (show j < l.length by omega), List.getElem?_eq_getElem hi, h]
  ·obtain ⟨k, v, hk, hv⟩ := ih (j + 1) (by omega) (by omega)
   refine ⟨k + 1, v, ?_, hv.trans ⟨?_, ?_⟩⟩
   ·simp only [arboristref15_twice.l1]
    rw [if_pos (by omega), if_pos (by omega), if_pos (by omega), if_pos (by omega), if_pos (by omega), rdOf_nat _ _ _ (show j < l.length by omega), rdOf_nat _ _ _ hi, if_neg (fun e => h (dtl_ne.1 e)), next_i (by omega), hk]
   ·rintro (⟨q, h1, h2, h3⟩ | h)
    ·exact .inl ⟨q, by omega, h2, h3⟩
    ·exact .inr h
   ·rintro (⟨q, h1, h2, h3⟩ | h')
    ·refine .inl ⟨q, ?_, h2, h3⟩
     rcases Nat.lt_or_ge j q with z | z
     ·omega
     ·obtain rfl : j = q := by omega
      rw [List.getElem?_eq_getElem (show j < l.length by omega), List.getElem?_eq_getElem hi] at h3
      exact absurd (Option.some.inj h3) h
    ·exact .inr h'
theorem rtwice_l0 (l : List ByteArray) (hl : l.length ≤ 140737488355328) : ∀ (m i : Nat), l.length - i = m → ∃ k v, arboristref15_twice.l0 k l (i : Int) = some v ∧ (v = true ↔ ∃ p q, i ≤ p ∧ q < p ∧ p < l.length ∧ l[q]? = l[p]?) := by
 intro m
 induction m with
 | zero =>
  intro i hm
  refine ⟨0 + 1, false, ?_, ⟨fun h => (by cases h), ?_⟩⟩
  ·simp only [arboristref15_twice.l0]
   rw [if_neg (by omega)]
  ·rintro ⟨p, q, h1, h2, h3, _⟩; omega
 | succ m ih =>
  intro i hm
  have hi : i < l.length := by omega
  obtain ⟨k, v, hk, hv⟩ := rtwice_l1 l hl i hi (ih (i + 1) (by omega)) i 0 (by omega) (by omega)
  refine ⟨k + 1, v, ?_, hv.trans ⟨?_, ?_⟩⟩
  ·simp only [arboristref15_twice.l0]
   rw [if_pos (by omega)]
   exact hk
  ·rintro (⟨q, h1, h2, h3⟩ | ⟨p, q, h1, h2, h3, h4⟩)
   ·exact ⟨i, q, Nat.le_refl _, h2, hi, h3⟩
   ·exact ⟨p, q, by omega, h2, h3, h4⟩
  ·rintro ⟨p, q, h1, h2, h3, h4⟩
   rcases Nat.lt_or_ge i p with z | z
   ·exact .inr ⟨p, q, z, h2, h3, h4⟩
   ·obtain rfl : i = p := by omega
    exact .inl ⟨q, by omega, h2, h4⟩
theorem rtwice_ends (l : List ByteArray) (hl : l.length ≤ 140737488355328) : ∃ k, arboristref15_twice.f k l = some (!decide l.Nodup) := by
 obtain ⟨k, v, hk, hv⟩ := rtwice_l0 l hl l.length 0 rfl
 refine ⟨k, ?_⟩
 unfold arboristref15_twice.f
 rw [show arboristref15_twice.l0 k l 0 = _ from hk]
 congr 1
 have hn : l.Nodup ↔ ¬ ∃ p q, 0 ≤ p ∧ q < p ∧ p < l.length ∧ l[q]? = l[p]? := by
  unfold List.Nodup
  rw [List.pairwise_iff_getElem]
  constructor
  ·rintro h ⟨p, q, _, h2, h3, h4⟩
   rw [List.getElem?_eq_getElem (show q < l.length by omega), List.getElem?_eq_getElem h3] at h4
   exact h q p (by omega) h3 h2 (Option.some.inj h4)
  ·intro h q p hq hp hlt he
   exact h ⟨p, q, Nat.zero_le _, hlt, hp, by rw [List.getElem?_eq_getElem hq, List.getElem?_eq_getElem hp, he]⟩
 by_cases h : l.Nodup
 ·rw [decide_eq_true h]
  cases v with
  | false => rfl
  | true => exact absurd (hv.1 rfl) (hn.1 h)
 ·rw [decide_eq_false h]
  cases v with
  | true => rfl
  | false => exact absurd (hn.2 (fun z => by have := hv.2 z; cases this)) h
theorem is_f (h1 : l1.length ≤ 140737488355328) (s : Int) : arboristref15_Is.f l0 l1 l2 l3 l4 s = some (thereS l0 l1 s) := by
 unfold arboristref15_Is.f thereS
 rw [wrap_id (by omega) (by omega)]
 by_cases h : s ≥ 0
 ·rw [if_pos h]
  by_cases h2 : s < (l0.length : Int)
  ·rw [if_pos h2, decide_eq_true h2, decide_eq_true (by omega)]; rfl
  ·rw [if_neg h2, if_neg (by omega), decide_eq_false h2]; rfl
 ·rw [if_neg h, if_pos (by omega), decide_eq_true (show s < (l0.length : Int) by omega)]; simp
theorem rstart_l0 (hl3 : l3.length ≤ 1100) : ∀ (rest : List S58) (i : Nat), l3.drop i = rest → ∃ k, arboristref15_start.l0 k (i : Int) l0 l1 l2 l3 l4 = some (rest.any (fun y => decide (y.f0 = 0))) := by
 intro rest
 induction rest with
 | nil =>
  intro i hd
  have := drop_nil hd
  refine ⟨1, ?_⟩
  simp only [arboristref15_start.l0]
  rw [if_neg (by omega)]; rfl
 | cons x r ih =>
  intro i hd
  obtain ⟨hi, hr, hx⟩ := drop_cons hd
  have e1 : rd_T58 l3 (i : Int) = x := by unfold rd_T58; simpa using hx _
  obtain ⟨k, hk⟩ := ih (i + 1) hr
  refine ⟨k + 1, ?_⟩
  simp only [arboristref15_start.l0]
  rw [if_pos (by omega), if_pos (by omega), e1]
  by_cases h1 : x.f0 = 0
  ·rw [if_pos h1]; simp [h1]
  ·rw [if_neg h1, next_i (by omega), hk]; simp [h1]
theorem rstart_ends (h0 : 1 ≤ l3.length) (h1 : l1.length ≤ 140737488355328) (hl3 : l3.length ≤ 1100) : ∃ k, arboristref15_start.f k l0 l1 l2 l3 l4 = some (!startS l0 l1 l3) := by
 cases hl : l3 with
 | nil => rw [hl] at h0; simp at h0
 | cons x r =>
  rw [← hl]
  obtain ⟨k, hk⟩ := rstart_l0 (l0 := l0) (l1 := l1) (l2 := l2) (l3 := l3) (l4 := l4) hl3 r 1 (by rw [hl]; rfl)
  refine ⟨k + 1, ?_⟩
  have hj : ∀ b : Bool, arboristref15_start.j0 (k + 1) b l0 l1 l2 l3 l4 = some (b || r.any (fun y => decide (y.f0 = 0))) := by
   intro b
   simp only [arboristref15_start.j0]
   cases b with
   | true => rfl
   | false => simp only [Bool.false_eq_true, if_false, Bool.false_or]; exact hk
  unfold arboristref15_start.f
  simp only [hj, is_f h1, Option.bind_some]
  have ex : rd_T58 l3 0 = x := by rw [hl]; rfl
  have es : startS l0 l1 l3 = startOf l0 l1 x.f0 (r.any (fun y => decide (y.f0 = 0))) x.f1 := by rw [hl]; rfl
  rw [ex, es, if_pos (by omega)]
  rcases hx1 : x.f1 with _ | ⟨s, _ | ⟨s2, t⟩⟩
  ·by_cases h : x.f0 = 0 <;> simp [h, startOf]
  ·by_cases h : x.f0 = 0
   ·rw [if_pos h, if_pos (by simp), if_pos (by simp)]
    simp only [show rd [s] 0 = s from rfl, startOf, decide_eq_true h, Bool.true_and]
    by_cases hs : s ≥ -1
    ·rw [if_pos hs, decide_eq_false (show ¬ s < -1 by omega)]; simp
    ·rw [if_neg hs, decide_eq_true (show s < -1 by omega)]; simp
   ·rw [if_neg h]; simp [startOf, h]
  ·by_cases h : x.f0 = 0
   ·rw [if_pos h, if_neg (by simp; omega)]; simp [startOf]
   ·rw [if_neg h]; simp [startOf]
theorem rrule_l0 (h1 : l1.length ≤ 140737488355328) (x : S58) (hl : x.f1.length ≤ 140737488355328) {e : Int} (h2 : ∃ k, (if (x.f2.length : Int) = 0 then (arboristref15_rule.j2 k false l0 l1 l2 l3 l4 x.f0 x.f1 x.f2 x.f3 x.f4) else (arboristref15_rule.j2 k ((x.f2.length : Int) != (x.f1.length : Int)) l0 l1 l2 l3 l4 x.f0 x.f1 x.f2 x.f3 x.f4)) = some e) : ∀ (rest : List Int) (i : Nat), x.f1.drop i = rest →
  ∃ k, arboristref15_rule.l0 k (i : Int) l0 l1 l2 l3 l4 x.f0 x.f1 x.f2 x.f3 x.f4 = some (if rest.any (symBad l0 l1) = true then 21 else e) := by
 intro rest
 induction rest with
 | nil =>
  intro i hd
  have := drop_nil hd
  obtain ⟨k, hk⟩ := h2
  refine ⟨k + 1, ?_⟩
  simp only [arboristref15_rule.l0]
  rw [if_neg (by omega), hk]; rfl
 | cons s r ih =>
  intro i hd
  obtain ⟨hi, hr, hx⟩ := drop_cons hd
  have e1 : rd x.f1 (i : Int) = s := by unfold rd; simpa using hx _
  obtain ⟨k, hk⟩ := ih (i + 1) hr
  refine ⟨k + 1, ?_⟩
  simp only [arboristref15_rule.l0]
  rw [if_pos (by omega), if_pos (by omega), e1, is_f h1]
  simp only [Option.bind_some]
  have hsb : symBad l0 l1 s = (!(thereS l0 l1 s) || (decide (-1 ≤ s) && decide (s ≤ 1))) := rfl
  cases ht : thereS l0 l1 s with
  | false => rw [if_neg (by simp)]; simp [hsb, ht]
  | true =>
   rw [if_pos rfl]
   by_cases c0 : s = 0
   ·have hb : symBad l0 l1 s = true := by rw [hsb, c0]; simp
    rw [if_pos c0]; simp [hb]
   ·rw [if_neg c0]
    by_cases c1 : s = 1
    ·have hb : symBad l0 l1 s = true := by rw [hsb, c1]; simp
     rw [if_pos c1]; simp [hb]
    ·rw [if_neg c1]
     by_cases c2 : s = -1
     ·have hb : symBad l0 l1 s = true := by rw [hsb, c2]; simp
      rw [if_pos c2]; simp [hb]
     ·rw [if_neg c2, next_i (by omega), hk]
      have : symBad l0 l1 s = false := by
       rw [hsb, ht]
       simp
       omega
      simp [this]
theorem rrule_ends (h1 : l1.length ≤ 140737488355328) (hl3 : l3.length ≤ 1100) (ho : ∀ x ∈ l3, ok58 x) (i : Nat) (hi : i < l3.length) (ahead : Int) (ha : if i = 0 then ahead = 0 else ahead = (l3.getD (i - 1) z58).f0) : ∃ k, arboristref15_rule.f k l0 l1 l2 l3 l4 (i : Int) = some (ruleS l0 l1 l4 (l3.getD i z58) ahead) := by
 have hm : (l3.getD i z58) ∈ l3 := getD_mem hi _
 have ex : rd_T58 l3 (i : Int) = l3.getD i z58 := by unfold rd_T58; rw [Int.toNat_natCast]
 generalize hx : l3.getD i z58 = x at *
 have hxo := (ok58_iff x).1 (ho x hm)
 have hlen : x.f1.length ≤ 17592186044416 := by have := hxo.2.1.1; unfold reachBytes at this; omega
 have hj2 : ∃ k, (if (x.f2.length : Int) = 0 then (arboristref15_rule.j2 k false l0 l1 l2 l3 l4 x.f0 x.f1 x.f2 x.f3 x.f4) else (arboristref15_rule.j2 k ((x.f2.length : Int) != (x.f1.length : Int)) l0 l1 l2 l3 l4 x.f0 x.f1 x.f2 x.f3 x.f4)) = some (if x.f2.length ≠ 0 ∧ x.f2.length ≠ x.f1.length then 25 else if ¬ (0 ≤ x.f4 ∧ x.f4 ≤ (l4.length : Int)) then 24 else 0) := by
  refine ⟨0 + 1, ?_⟩
  have hj : ∀ b : Bool, arboristref15_rule.j2 (0 + 1) b l0 l1 l2 l3 l4 x.f0 x.f1 x.f2 x.f3 x.f4 = some (if b = true then 25 else if ¬ (0 ≤ x.f4 ∧ x.f4 ≤ (l4.length : Int)) then 24 else 0) := by
   intro b
   simp only [arboristref15_rule.j2]
   cases b with
   | true => rfl
   | false =>
    simp only [Bool.false_eq_true, if_false]
    by_cases c1 : x.f4 < 0
    ·rw [if_pos c1, if_pos (by omega)]
    ·rw [if_neg c1]
     by_cases c2 : x.f4 > (l4.length : Int)
     ·rw [if_pos c2, if_pos (by omega)]
     ·rw [if_neg c2, if_neg (by omega)]
  rw [hj, hj]
  by_cases hf : x.f2.length = 0
  ·simp [hf]
  ·by_cases hg : x.f2.length = x.f1.length
   ·simp [hg]
   ·have hb : ((x.f2.length : Int) != (x.f1.length : Int)) = true := by simp; omega
    rw [if_neg (show ¬ ((x.f2.length : Int) = 0) by omega), hb, if_pos rfl, if_pos (show x.f2.length ≠ 0 ∧ x.f2.length ≠ x.f1.length from ⟨hf, hg⟩)]
 obtain ⟨k, hk⟩ := rrule_l0 h1 x (by omega) hj2 x.f1 0 rfl
 refine ⟨k + 1, ?_⟩
 have hj : ∀ b : Bool, arboristref15_rule.j0 (k + 1) b l0 l1 l2 l3 l4 x.f0 x.f1 x.f2 x.f3 x.f4 = some (if b = true then 22 else (if x.f1.any (symBad l0 l1) = true then 21 else (if x.f2.length ≠ 0 ∧ x.f2.length ≠ x.f1.length then 25 else if ¬ (0 ≤ x.f4 ∧ x.f4 ≤ (l4.length : Int)) then 24 else 0))) := by
  intro b
  simp only [arboristref15_rule.j0]
  cases b with
  | true => rfl
  | false => simp only [Bool.false_eq_true, if_false]; exact hk
 unfold arboristref15_rule.f ruleS
 simp only [ex, hj]
 rw [if_pos (by omega), if_pos (by omega)]
 by_cases c1 : x.f0 < 0
 ·rw [if_pos c1, if_pos trivial, if_pos (show ¬ (0 ≤ x.f0 ∧ x.f0 ≤ (l1.length : Int) - 1) ∨ x.f0 < ahead ∨ 32 < x.f1.length from .inl (by omega))]
 ·rw [if_neg c1]
  by_cases c2 : x.f0 ≥ (l1.length : Int)
  ·rw [if_pos c2, if_pos trivial, if_pos (show ¬ (0 ≤ x.f0 ∧ x.f0 ≤ (l1.length : Int) - 1) ∨ x.f0 < ahead ∨ 32 < x.f1.length from .inl (by omega))]
  ·rw [if_neg c2]
   have hlast : (if decide ((x.f1.length : Int) > 32) = true then (22 : Int) else (if x.f1.any (symBad l0 l1) = true then 21 else (if x.f2.length ≠ 0 ∧ x.f2.length ≠ x.f1.length then 25 else if ¬ (0 ≤ x.f4 ∧ x.f4 ≤ (l4.length : Int)) then 24 else 0))) = (if 32 < x.f1.length then (22 : Int) else (if x.f1.any (symBad l0 l1) = true then 21 else (if x.f2.length ≠ 0 ∧ x.f2.length ≠ x.f1.length then 25 else if ¬ (0 ≤ x.f4 ∧ x.f4 ≤ (l4.length : Int)) then 24 else 0))) := by
    by_cases c : 32 < x.f1.length
    ·rw [if_pos c, if_pos (decide_eq_true (by omega))]
    ·rw [if_neg c, if_neg (by simp; omega)]
   have hcond : ¬ x.f0 < ahead → (if ¬ (0 ≤ x.f0 ∧ x.f0 ≤ (l1.length : Int) - 1) ∨ x.f0 < ahead ∨ 32 < x.f1.length then (22 : Int) else (if x.f1.any (symBad l0 l1) = true then 21 else (if x.f2.length ≠ 0 ∧ x.f2.length ≠ x.f1.length then 25 else if ¬ (0 ≤ x.f4 ∧ x.f4 ≤ (l4.length : Int)) then 24 else 0))) = (if 32 < x.f1.length then (22 : Int) else (if x.f1.any (symBad l0 l1) = true then 21 else (if x.f2.length ≠ 0 ∧ x.f2.length ≠ x.f1.length then 25 else if ¬ (0 ≤ x.f4 ∧ x.f4 ≤ (l4.length : Int)) then 24 else 0))) := by
    intro hh
    by_cases c : 32 < x.f1.length
    ·rw [if_pos c, if_pos (.inr (.inr c))]
    ·rw [if_neg c, if_neg (by rintro (h | h | h); exact h (by omega); exact hh h; exact c h)]
   by_cases c3 : i = 0
   ·rw [if_pos c3] at ha
    rw [if_neg (by omega), hlast, hcond (by omega)]
   ·rw [if_neg c3] at ha
    have em : wrap64 ((i : Int) - 1) = ((i - 1 : Nat) : Int) := by rw [wrap_id (by omega) (by omega)]; omega
    have ey : rd_T58 l3 ((i - 1 : Nat) : Int) = l3.getD (i - 1) z58 := by unfold rd_T58; rw [Int.toNat_natCast]
    rw [if_pos (by omega), em, if_pos (by omega), if_pos (by omega), ey, ← ha]
    by_cases c4 : x.f0 < ahead
    ·rw [if_pos c4, if_pos trivial, if_pos (show ¬ (0 ≤ x.f0 ∧ x.f0 ≤ (l1.length : Int) - 1) ∨ x.f0 < ahead ∨ 32 < x.f1.length from .inr (.inl c4))]
    ·rw [if_neg c4, hlast, hcond c4]
def CM (n : Nat) (c : List Bool) (met : Int → Bool) : Prop := c.length = n ∧ ∀ t : Nat, t < n → rdOf false c (t : Int) = met (t : Int)
def lvAfter (n : Int) (tl : List S61) : (Int → Bool) → List Int → Int
 | met, [] => levelsGo n met tl
 | met, t :: r => if 2 ≤ t ∧ t ≤ n - 1 ∧ met t = false then lvAfter n tl (fun z => z == t || met z) r else 24
theorem lvAfter_eq (n : Int) (tl : List S61) : ∀ (r : List Int) (met : Int → Bool), (match termsGo n met r with | none => 24 | some m => levelsGo n m tl) = lvAfter n tl met r
 | [], met => rfl
 | t :: r, met => by
  simp only [termsGo, lvAfter]
  by_cases h : 2 ≤ t ∧ t ≤ n - 1 ∧ met t = false
  ·simp only [if_pos h]; exact lvAfter_eq n tl r _
  ·simp only [if_neg h]
theorem levelsGo_cons (n : Int) (met : Int → Bool) (x : S61) (tl : List S61) : levelsGo n met (x :: tl) = if 1 ≤ x.f0 ∧ x.f0 ≤ 4 then lvAfter n tl met x.f1 else 24 := by
 simp only [levelsGo]
 by_cases h : 1 ≤ x.f0 ∧ x.f0 ≤ 4
 ·simp only [if_pos h]; exact lvAfter_eq n tl x.f1 met
 ·simp only [if_neg h]
theorem rlevels_l1 (n4 : l4.length ≤ 1000) (x : S61) (hxl : x.f1.length ≤ 140737488355328) (j : Nat) (hj : j < l4.length) (tl : List S61)
  (h0 : ∀ (c : List Bool) (met : Int → Bool), CM l0.length c met → ∃ k v, arboristref15_levels.l0 k c ((j + 1 : Nat) : Int) l0 l1 l2 l3 l4 = some v ∧ (v = true ↔ levelsGo l0.length met tl = 0)) :
  ∀ (rest : List Int) (i : Nat) (c : List Bool) (met : Int → Bool), x.f1.drop i = rest → CM l0.length c met →
   ∃ k v, arboristref15_levels.l1 k c (j : Int) (i : Int) l0 l1 l2 l3 l4 x.f0 x.f1 = some v ∧ (v = true ↔ lvAfter l0.length tl met rest = 0) := by
 intro rest
 induction rest with
 | nil =>
  intro i c met hd hc
  have := drop_nil hd
  obtain ⟨k, v, hk, hv⟩ := h0 c met hc
  refine ⟨k + 1, v, ?_, hv⟩
  simp only [arboristref15_levels.l1]
  rw [if_neg (by omega), next_i (by omega), hk]
 | cons t r ih =>
  intro i c met hd hc
  obtain ⟨hi, hr, hx⟩ := drop_cons hd
  have e1 : rd x.f1 (i : Int) = t := by unfold rd; simpa using hx _
  simp only [lvAfter]
  by_cases c1 : t < 2
  ·refine ⟨0 + 1, false, ?_, by rw [if_neg (by omega)]; simp⟩
   simp only [arboristref15_levels.l1]
   rw [if_pos (by omega), if_pos (by omega), e1, if_pos c1]
  ·by_cases c2 : t ≥ (l0.length : Int)
   ·refine ⟨0 + 1, false, ?_, by rw [if_neg (by omega)]; simp⟩
    simp only [arboristref15_levels.l1]
    rw [if_pos (by omega), if_pos (by omega), e1, if_neg c1, if_pos c2]
   ·obtain ⟨n, rfl⟩ := Int.eq_ofNat_of_zero_le (show 0 ≤ t by omega)
    have hn : n < l0.length := by omega
    have hm := hc.2 n hn
    cases hmt : met (n : Int) with
    | true =>
     refine ⟨0 + 1, false, ?_, by rw [if_neg (by rintro ⟨_, _, h⟩; cases h)]; simp⟩
     simp only [arboristref15_levels.l1]
     rw [if_pos (by omega), if_pos (by omega), e1, if_neg c1, if_neg c2, if_pos (by omega), if_pos (by rw [hc.1]; omega), if_pos (by rw [hm, hmt])]
    | false =>
     obtain ⟨k, v, hk, hv⟩ := ih (i + 1) (c.set n true) (fun z => z == (n : Int) || met z) hr ⟨by rw [List.length_set]; exact hc.1, fun t ht => by
      unfold rdOf
      rw [Int.toNat_natCast, List.getD_eq_getElem?_getD, List.getElem?_set]
      by_cases e : n = t
      ·subst e
       rw [if_pos rfl, if_pos (by rw [hc.1]; exact hn)]; simp
      ·rw [if_neg e]
       have := hc.2 t ht
       unfold rdOf at this
       rw [Int.toNat_natCast, List.getD_eq_getElem?_getD] at this
       rw [this]
       simp [show ¬ ((t : Int) = (n : Int)) by omega]⟩
     refine ⟨k + 1, v, ?_, by rw [if_pos ⟨by omega, by omega, rfl⟩]; exact hv⟩
     simp only [arboristref15_levels.l1]
     rw [if_pos (by omega), if_pos (by omega), e1, if_neg c1, if_neg c2, if_pos (by omega), if_pos (by rw [hc.1]; omega), if_neg (by rw [hm, hmt]; simp), next_i (by omega), Int.toNat_natCast]
     exact hk
theorem rlevels_l0 (n4 : l4.length ≤ 1000) (ho : ∀ x ∈ l4, x.f1.length ≤ 140737488355328) : ∀ (rest : List S61) (j : Nat) (c : List Bool) (met : Int → Bool), l4.drop j = rest → CM l0.length c met →
  ∃ k v, arboristref15_levels.l0 k c (j : Int) l0 l1 l2 l3 l4 = some v ∧ (v = true ↔ levelsGo l0.length met rest = 0) := by
 intro rest
 induction rest with
 | nil =>
  intro j c met hd hc
  have := drop_nil hd
  refine ⟨0 + 1, true, ?_, by simp [levelsGo]⟩
  simp only [arboristref15_levels.l0]
  rw [if_neg (by omega)]
 | cons x r ih =>
  intro j c met hd hc
  obtain ⟨hi, hr, hx⟩ := drop_cons hd
  have e1 : rd_T61 l4 (j : Int) = x := by unfold rd_T61; simpa using hx _
  have hxl : x.f1.length ≤ 140737488355328 := ho x (by rw [← hx ⟨0, []⟩]; exact getD_mem hi _)
  obtain ⟨k, v, hk, hv⟩ := rlevels_l1 (l0 := l0) (l1 := l1) (l2 := l2) (l3 := l3) n4 x hxl j hi r (fun c met h => ih (j + 1) c met hr h) x.f1 0 c met rfl hc
  rw [levelsGo_cons]
  have hj : ∀ b : Bool, arboristref15_levels.j1 (k + 1) c (j : Int) b l0 l1 l2 l3 l4 x.f0 x.f1 = some (!b && v) := by
   intro b
   simp only [arboristref15_levels.j1]
   cases b with
   | true => rfl
   | false => simp only [Bool.false_eq_true, if_false, Bool.not_false, Bool.true_and]; exact hk
  by_cases c1 : x.f0 < 1
  ·refine ⟨k + 1 + 1, false, ?_, by rw [if_neg (by omega)]; simp⟩
   simp only [arboristref15_levels.l0]
   rw [if_pos (by omega), if_pos (by omega), e1, if_pos c1, hj]; rfl
  ·by_cases c2 : x.f0 > 4
   ·refine ⟨k + 1 + 1, false, ?_, by rw [if_neg (by omega)]; simp⟩
    simp only [arboristref15_levels.l0]
    rw [if_pos (by omega), if_pos (by omega), e1, if_neg c1, hj, decide_eq_true c2]; rfl
   ·refine ⟨k + 1 + 1, v, ?_, by rw [if_pos (by omega)]; exact hv⟩
    simp only [arboristref15_levels.l0]
    rw [if_pos (by omega), if_pos (by omega), e1, if_neg c1, hj, decide_eq_false c2]; rfl
theorem rlevels_ends (n0 : l0.length ≤ 281474976710656) (n4 : l4.length ≤ 1000) (ho : ∀ x ∈ l4, x.f1.length ≤ 140737488355328) : ∃ k v, arboristref15_levels.f k l0 l1 l2 l3 l4 = some v ∧ (v = true ↔ levelsGo l0.length (fun _ => false) l4 = 0) := by
 obtain ⟨k, v, hk, hv⟩ := rlevels_l0 (l0 := l0) (l1 := l1) (l2 := l2) (l3 := l3) n4 ho l4 0 (List.replicate l0.length false) (fun _ => false) rfl ⟨by simp, fun t ht => by unfold rdOf; simp [List.getD_eq_getElem?_getD, List.getElem?_replicate, ht]⟩
 refine ⟨k, v, ?_, hv⟩
 unfold arboristref15_levels.f
 rw [if_pos (by omega), Int.toNat_natCast, if_pos n0]
 exact hk
theorem lvAfter_or (n : Int) (tl : List S61) (h : ∀ met, levelsGo n met tl = 0 ∨ levelsGo n met tl = 24) : ∀ (r : List Int) (met : Int → Bool), lvAfter n tl met r = 0 ∨ lvAfter n tl met r = 24
 | [], met => h met
 | t :: r, met => by
  simp only [lvAfter]
  split
  ·exact lvAfter_or n tl h r _
  ·exact .inr rfl
theorem levelsGo_or (n : Int) : ∀ (l : List S61) (met : Int → Bool), levelsGo n met l = 0 ∨ levelsGo n met l = 24
 | [], met => .inl rfl
 | x :: l, met => by
  rw [levelsGo_cons]
  split
  ·exact lvAfter_or n l (levelsGo_or n l) _ _
  ·exact .inr rfl
theorem rright_l0 (h1 : l1.length ≤ 140737488355328) (hl3 : l3.length ≤ 1100) (ho : ∀ x ∈ l3, ok58 x) (n0 : l0.length ≤ 281474976710656) (n4 : l4.length ≤ 1000) (ho4 : ∀ x ∈ l4, x.f1.length ≤ 140737488355328) :
  ∀ (rest : List S58) (i : Nat) (a : Int), l3.drop i = rest → (if i = 0 then a = 0 else a = (l3.getD (i - 1) z58).f0) →
   ∃ k, arboristref15_Right.l0 k (i : Int) l0 l1 l2 l3 l4 = some (if rulesS l0 l1 l4 a rest = 0 then levelsGo l0.length (fun _ => false) l4 else rulesS l0 l1 l4 a rest) := by
 intro rest
 induction rest with
 | nil =>
  intro i a hd ha
  have := drop_nil hd
  obtain ⟨k, v, hk, hv⟩ := rlevels_ends (l0 := l0) (l1 := l1) (l2 := l2) (l3 := l3) n0 n4 ho4
  refine ⟨k + 1, ?_⟩
  simp only [arboristref15_Right.l0, rulesS]
  rw [if_neg (by omega), hk, if_pos trivial]
  simp only [Option.bind_some]
  rcases levelsGo_or (l0.length : Int) l4 (fun _ => false) with h | h
  ·rw [hv.2 h, if_pos rfl, h]
  ·have : v = false := by
    cases v with
    | false => rfl
    | true => have := hv.1 rfl; rw [h] at this; cases this
   rw [this, if_neg (by simp), h]
 | cons x r ih =>
  intro i a hd ha
  obtain ⟨hi, hr, hx⟩ := drop_cons hd
  obtain ⟨k1, e1⟩ := rrule_ends (l0 := l0) (l2 := l2) (l4 := l4) h1 hl3 ho i hi a ha
  rw [hx] at e1
  obtain ⟨k2, e2⟩ := ih (i + 1) x.f0 hr (by rw [if_neg (by omega), Nat.add_sub_cancel, hx])
  refine ⟨k1 + k2 + 1, ?_⟩
  simp only [arboristref15_Right.l0]
  rw [if_pos (by omega), up (fun k => arboristref15_rule.mono _ _ _ _ _ _ k) (by omega : k1 ≤ k1 + k2) e1]
  simp only [Option.bind_some]
  by_cases hz : ruleS l0 l1 l4 x a = 0
  ·rw [show rulesS l0 l1 l4 a (x :: r) = rulesS l0 l1 l4 x.f0 r from if_pos hz, if_pos hz, next_i (by omega)]
   exact up (fun k => (arboristref15_Right.mono_l k).2 _ _ _ _ _ _) (by omega : k2 ≤ k1 + k2) e2
  ·rw [show rulesS l0 l1 l4 a (x :: r) = ruleS l0 l1 l4 x a from if_neg hz, if_neg hz, if_neg hz]
theorem rright_ends (hx : ok40 ⟨l0, l1, l2, l3, l4⟩) (hl3 : l3.length ≤ 1100) : ∃ k, arboristref15_Right.f k l0 l1 l2 l3 l4 = some (rightS l0 l1 l2 l3 l4) := by
 have h := (ok40_iff _).1 hx
 simp only at h
 obtain ⟨g0, g1, g2, g3, g4⟩ := h
 have b0 : l0.length ≤ 140737488355328 := by have := g0.1; unfold reachBytes at this; omega
 have b1 : l1.length ≤ 140737488355328 := by have := g1.1; unfold reachBytes at this; omega
 have b2 : l2.length ≤ 140737488355328 := by have := g2.1; unfold reachBytes at this; omega
 have b4 : ∀ x ∈ l4, x.f1.length ≤ 140737488355328 := fun x hx => by have := ((ok61_iff x).1 (g4.2 x hx)).2.1; unfold reachBytes at this; omega
 obtain ⟨k1, e1⟩ := rcounts_ends (l0 := l0) (l1 := l1) (l2 := l2) (l4 := l4) b2 hl3 g3.2
 by_cases hc : countsS l0 l1 l2 l3 l4 = true
 ·have hc' := hc
  simp only [countsS, Bool.and_eq_true, decide_eq_true_eq] at hc'
  obtain ⟨c0, c1, c2, c3, c4, c5, c6⟩ := hc'
  obtain ⟨k2, e2⟩ := rstart_ends (l0 := l0) (l1 := l1) (l2 := l2) (l4 := l4) c4.1 b1 hl3
  obtain ⟨k3, e3⟩ := rright_l0 (l0 := l0) (l2 := l2) (l4 := l4) b1 hl3 g3.2 (by omega) (by omega) b4 l3 0 0 rfl rfl
  obtain ⟨k4, e4⟩ := rtwice_ends l0 b0
  obtain ⟨k5, e5⟩ := rtwice_ends l1 b1
  refine ⟨k1 + k2 + k3 + k4 + k5 + 1, ?_⟩
  have hj : ∀ b : Bool, arboristref15_Right.j0 (k1 + k2 + k3 + k4 + k5 + 1) b l0 l1 l2 l3 l4 = some (if b = true then 8 else if startS l0 l1 l3 = false then 23 else if rulesS l0 l1 l4 0 l3 = 0 then levelsGo l0.length (fun _ => false) l4 else rulesS l0 l1 l4 0 l3) := by
   intro b
   simp only [arboristref15_Right.j0]
   cases b with
   | true => rfl
   | false =>
    simp only [Bool.false_eq_true, if_false]
    rw [up (fun k => arboristref15_start.mono _ _ _ _ _ k) (by omega : k2 ≤ k1 + k2 + k3 + k4 + k5) e2]
    simp only [Option.bind_some]
    cases startS l0 l1 l3 with
    | false => rfl
    | true =>
     simp only [Bool.not_true, Bool.false_eq_true, if_false, Bool.true_eq_false]
     exact up (fun k => (arboristref15_Right.mono_l k).2 _ _ _ _ _ _) (by omega : k3 ≤ k1 + k2 + k3 + k4 + k5) e3
  unfold arboristref15_Right.f rightS
  rw [up (fun k => arboristref15_counts.mono _ _ _ _ _ k) (by omega : k1 ≤ k1 + k2 + k3 + k4 + k5 + 1) e1, hc]
  simp only [Option.bind_some, Bool.not_true, Bool.false_eq_true, if_false, Bool.true_eq_false]
  rw [up (fun k => arboristref15_twice.mono _ k) (by omega : k4 ≤ k1 + k2 + k3 + k4 + k5 + 1) e4]
  simp only [Option.bind_some]
  by_cases n0 : l0.Nodup
  ·rw [decide_eq_true n0]
   simp only [Bool.not_true, Bool.false_eq_true, if_false]
   rw [up (fun k => arboristref15_twice.mono _ k) (by omega : k5 ≤ k1 + k2 + k3 + k4 + k5 + 1) e5]
   simp only [Option.bind_some]
   rw [hj]
   by_cases n1 : l1.Nodup
   ·rw [decide_eq_true n1, if_pos (show l0.Nodup ∧ l1.Nodup from ⟨n0, n1⟩)]; rfl
   ·rw [decide_eq_false n1, if_neg (fun h : l0.Nodup ∧ l1.Nodup => n1 h.2)]; rfl
  ·rw [decide_eq_false n0, if_neg (fun h : l0.Nodup ∧ l1.Nodup => n0 h.1)]
   simp only [Bool.not_false, if_true]
   rw [hj]; rfl
 ·have hc := Bool.eq_false_iff.mpr hc
  refine ⟨k1, ?_⟩
  unfold arboristref15_Right.f rightS
  rw [e1, hc]
  rfl
end
end
section
open Go.Proofs.YtphmgaijkdflnaaDoorW.PrintWords Go.Proofs.YtphmgaijkdflnaaDoorW.PrintLast Go.Proofs.YtphmgaijkdflnaaDoorW.PrintMore
attribute [local go_sem] max2_int min2_int max_two min_two max_three min_three max_four min_four
def arboristref15_Sym.f (l0_0 : List ByteArray) (l0_1 : List ByteArray) (l0_2 : List Int) (l0_3 : List (S58)) (l0_4 : List (S61)) (a1 : Int) : Option (ByteArray) := (arboristref15_Is.f l0_0 l0_1 l0_2 l0_3 l0_4 a1).bind fun t272 => (if t272 = true then (if a1 ≥ 0 then (if 0 ≤ a1 then (if a1 < (l0_0.length : Int) then (some (rdOf ByteArray.empty l0_0 a1)) else (none)) else (none)) else (if 0 ≤ (wrap64 ((-1) - a1)) then (if (wrap64 ((-1) - a1)) < (l0_1.length : Int) then (some (rdOf ByteArray.empty l0_1 (wrap64 ((-1) - a1)))) else (none)) else (none))) else (some (⟨#[63]⟩ : ByteArray)))
theorem arboristref15_Sym.calls (A0_0 : Option Addr) (c0_0 : Nat) (l0_0 : List ByteArray) (A0_1 : Option Addr) (c0_1 : Nat) (l0_1 : List ByteArray) (A0_2 : Option Addr) (c0_2 : Nat) (l0_2 : List Int) (A0_3 : Option Addr) (c0_3 : Nat) (l0_3 : List (S58)) (A0_4 : Option Addr) (c0_4 : Nat) (l0_4 : List (S61)) (a1 : Int) (r : ByteArray) (w : World) (hr0_0 : Kd.C Kd.string w A0_0 l0_0.length l0_0) (hc0_0 : l0_0.length ≤ c0_0) (hr0_1 : Kd.C Kd.string w A0_1 l0_1.length l0_1) (hc0_1 : l0_1.length ≤ c0_1) (hr0_2 : Kd.C (Kd.int .i64) w A0_2 l0_2.length l0_2) (hc0_2 : l0_2.length ≤ c0_2) (hr0_3 : Kd.C k58 w A0_3 l0_3.length l0_3) (hc0_3 : l0_3.length ≤ c0_3) (hr0_4 : Kd.C k61 w A0_4 l0_4.length l0_4) (hc0_4 : l0_4.length ≤ c0_4) (h : arboristref15_Sym.f l0_0 l0_1 l0_2 l0_3 l0_4 a1 = some r) :
  Calls Tryd.prog 47 #[.agg #[.slice A0_0 l0_0.length c0_0, .slice A0_1 l0_1.length c0_1, .slice A0_2 l0_2.length c0_2, .slice A0_3 l0_3.length c0_3, .slice A0_4 l0_4.length c0_4], .int .i64 a1] w fun e w' => e = .returned (.string r) ∧ Below w.heap.size w w' := by
 have hu40 := Tryd.underlying40; have HR0_0 := qM hr0_0; have HC0_0 := qM hc0_0; clear hr0_0 hc0_0; have HR0_1 := qM hr0_1; have HC0_1 := qM hc0_1; clear hr0_1 hc0_1; have HR0_2 := qM hr0_2; have HC0_2 := qM hc0_2; clear hr0_2 hc0_2; have HR0_3 := qM hr0_3; have HC0_3 := qM hc0_3; clear hr0_3 hc0_3; have HR0_4 := qM hr0_4; have HC0_4 := qM hc0_4; clear hr0_4 hc0_4; have HB := qM (Below.refl w.heap.size w); have H : ((arboristref15_Is.f l0_0 l0_1 l0_2 l0_3 l0_4 a1).bind fun t272 => (if t272 = true then (if a1 ≥ 0 then (if 0 ≤ a1 then (if a1 < (l0_0.length : Int) then (some (rdOf ByteArray.empty l0_0 a1)) else (none)) else (none)) else (if 0 ≤ (wrap64 ((-1) - a1)) then (if (wrap64 ((-1) - a1)) < (l0_1.length : Int) then (some (rdOf ByteArray.empty l0_1 (wrap64 ((-1) - a1)))) else (none)) else (none))) else (some (⟨#[63]⟩ : ByteArray)))) = some r := h; clear h; replace H := Option.bind_eq_some_iff.mp H; obtain ⟨t272, A30, H⟩ := H; replace H : (if t272 = true then (if a1 ≥ 0 then (if 0 ≤ a1 then (if a1 < (l0_0.length : Int) then (some (rdOf ByteArray.empty l0_0 a1)) else (none)) else (none)) else (if 0 ≤ (wrap64 ((-1) - a1)) then (if (wrap64 ((-1) - a1)) < (l0_1.length : Int) then (some (rdOf ByteArray.empty l0_1 (wrap64 ((-1) - a1)))) else (none)) else (none))) else (some (⟨#[63]⟩ : ByteArray))) = some r := H; have A3 := qM A30; clear A30; have HH_ := qM H; clear H; (go_enter Tryd.func47, Tryd.ntmps47)
 go_upto_region 1 with (first | ((with_reducible refine gate_dst (N := 2) rfl ?_); refine box_event ?hg (N := 2) ?hd (cs := #[.slice A0_0 l0_0.length c0_0, .slice A0_1 l0_1.length c0_1, .slice A0_2 l0_2.length c0_2, .slice A0_3 l0_3.length c0_3, .slice A0_4 l0_4.length c0_4]) (t := 40) ?hr ?_; (case hd | hg => rfl); (case hr => first | (go_simp; done) | (go_simp; rfl)); intro gb271 hg w8 hbox hb; have BK271 := qM (hbox); have GW271 := qM (qG hg); have GE271 := GW271; replace HB := qM (qP qF hb); clear hb hbox hg; have hz9 := bx5 BK271.out))
 have H := HH_.out; clear HH_; (refine iteR ?_ ?_ H <;> clear H <;> intro c4 H)
 ·subst c4
  refine iteR ?_ ?_ H <;> clear H <;> intro c5 H
  ·have c5b0 : decide (0 ≤ a1) = true := decide_eq_true c5
   clear c5; refine iteN ?_ H; clear H; (intro c6b0 H); refine iteN ?_ H; clear H; (intro c7b0 H); obtain rfl := Option.some.inj H
   go_wp2_with (first | ((with_reducible refine gate_callee (f := 62) rfl ?_); refine goesL_ (some 7) rfl rfl Tryd.func62 (by kernel_rfl) rfl #[.agg #[.slice A0_0 l0_0.length c0_0, .slice A0_1 l0_1.length c0_1, .slice A0_2 l0_2.length c0_2, .slice A0_3 l0_3.length c0_3, .slice A0_4 l0_4.length c0_4], .int .i64 a1] rfl (by (try simp only [List.map_toArray, List.map_cons, List.map_nil]); first | done | rfl | (simp only [List.length_drop, List.length_take]; rfl)) ?_; (with_reducible refine (arboristref15_Is.calls _ _ l0_0 _ _ l0_1 _ _ l0_2 _ _ l0_3 _ _ l0_4 a1 true _ ?side1 ?side2 ?side3 ?side4 ?side5 ?side6 ?side7 ?side8 ?side9 ?side10 A3.out).mono ?_); (case side1 | side3 | side5 | side7 | side9 => exact qY); (case side2 | side4 | side6 | side8 | side10 => exact qO); rintro e w10 ⟨rfl, hb⟩; refine ⟨_, rfl, ?_⟩; replace BK271 := qM (qb (g := gb271) qK hb); replace HB := qM (qP qF hb); (try clear hb); (try clear hb2); (try clear hk); (try clear hi); have hz11 := bx5 BK271.out; have p273 : 0 ≤ (a1 : Int) := qo qX; have q273 : a1 < (l0_0.length : Int) := qo qX; obtain ⟨ad273, e273, hx273_0⟩ := Kd.at_string HR0_0.out a1 p273 q273; cases e273; replace hx273_0 := qv HB.out hx273_0; replace p273 := eq_true p273; replace q273 := eq_true q273))
   (go_ret); exact ⟨qE, qF⟩
  ·have c5b0 : decide (0 ≤ a1) = false := decide_eq_false c5
   clear c5; obtain ⟨ji12, hji12⟩ : ∃ j_ : Int, (wrap64 ((-1) - a1)) = j_ := ⟨_, rfl⟩; (replace H : (if 0 ≤ (ji12) then (if (ji12) < (l0_1.length : Int) then (some (rdOf ByteArray.empty l0_1 (ji12))) else (none)) else (none)) = some r := by first | (rw [hji12] at H; exact H) | (simp only [hji12] at H ⊢; exact H)); (try rw [hji12] at A3); have hji12w : (IntKind.i64.wrap ((-1) - a1)) = ji12 := (i64_w _).trans hji12; refine iteN ?_ H; clear H; (intro c13b0 H); refine iteN ?_ H; clear H; (intro c14b0 H); obtain rfl := Option.some.inj H
   go_wp2_with (first | ((with_reducible refine gate_callee (f := 62) rfl ?_); refine goesL_ (some 7) rfl rfl Tryd.func62 (by kernel_rfl) rfl #[.agg #[.slice A0_0 l0_0.length c0_0, .slice A0_1 l0_1.length c0_1, .slice A0_2 l0_2.length c0_2, .slice A0_3 l0_3.length c0_3, .slice A0_4 l0_4.length c0_4], .int .i64 a1] rfl (by (try simp only [List.map_toArray, List.map_cons, List.map_nil]); first | done | rfl | (simp only [List.length_drop, List.length_take]; rfl)) ?_; (with_reducible refine (arboristref15_Is.calls _ _ l0_0 _ _ l0_1 _ _ l0_2 _ _ l0_3 _ _ l0_4 a1 true _ ?side1 ?side2 ?side3 ?side4 ?side5 ?side6 ?side7 ?side8 ?side9 ?side10 A3.out).mono ?_); (case side1 | side3 | side5 | side7 | side9 => exact qY); (case side2 | side4 | side6 | side8 | side10 => exact qO); rintro e w17 ⟨rfl, hb⟩; refine ⟨_, rfl, ?_⟩; replace BK271 := qM (qb (g := gb271) qK hb); replace HB := qM (qP qF hb); (try clear hb); (try clear hb2); (try clear hk); (try clear hi); have hz18 := bx5 BK271.out; have p274 : 0 ≤ ((ji12) : Int) := qo qX; have q274 : (ji12) < (l0_1.length : Int) := qo qX; obtain ⟨ad274, e274, hx274_0⟩ := Kd.at_string HR0_1.out (ji12) p274 q274; cases e274; replace hx274_0 := qv HB.out hx274_0; replace p274 := eq_true p274; replace q274 := eq_true q274))
   (go_ret); exact ⟨by first | rfl | (simp [errW_none, errW_some] <;> rfl) | (simp only [← hji12]; first | rfl | (simp [errW_none, errW_some] <;> rfl)) | (simp [*, errW_none, errW_some] <;> rfl), qF⟩
 ·replace c4 := Bool.eq_false_iff.mpr c4
  subst c4; obtain rfl := Option.some.inj H
  go_wp2_with (first | ((with_reducible refine gate_callee (f := 62) rfl ?_); refine goesL_ (some 7) rfl rfl Tryd.func62 (by kernel_rfl) rfl #[.agg #[.slice A0_0 l0_0.length c0_0, .slice A0_1 l0_1.length c0_1, .slice A0_2 l0_2.length c0_2, .slice A0_3 l0_3.length c0_3, .slice A0_4 l0_4.length c0_4], .int .i64 a1] rfl (by (try simp only [List.map_toArray, List.map_cons, List.map_nil]); first | done | rfl | (simp only [List.length_drop, List.length_take]; rfl)) ?_; (with_reducible refine (arboristref15_Is.calls _ _ l0_0 _ _ l0_1 _ _ l0_2 _ _ l0_3 _ _ l0_4 a1 false _ ?side1 ?side2 ?side3 ?side4 ?side5 ?side6 ?side7 ?side8 ?side9 ?side10 A3.out).mono ?_); (case side1 | side3 | side5 | side7 | side9 => exact qY); (case side2 | side4 | side6 | side8 | side10 => exact qO); rintro e w21 ⟨rfl, hb⟩; refine ⟨_, rfl, ?_⟩; replace BK271 := qM (qb (g := gb271) qK hb); replace HB := qM (qP qF hb); (try clear hb); (try clear hb2); (try clear hk); (try clear hi)))
  (go_ret); exact ⟨qE, qF⟩
end
section
open Go.Proofs.YtphmgaijkdflnaaDoorW.PrintWords Go.Proofs.YtphmgaijkdflnaaDoorW.PrintLast Go.Proofs.YtphmgaijkdflnaaDoorW.PrintMore
def symS (l0 l1 : List ByteArray) (s : Int) : ByteArray := if thereS l0 l1 s = true then (if s < 0 then l1.getD (-1 - s).toNat ByteArray.empty else l0.getD s.toNat ByteArray.empty) else ⟨#[63]⟩
section
variable {l0 l1 : List ByteArray} {l2 : List Int} {l3 : List S58} {l4 : List S61}
theorem sym_all (h1 : l1.length ≤ 140737488355328) (s : Int) : grammar_Sym.f l0 l1 l2 l3 l4 s = some (symS l0 l1 s) := by
 unfold grammar_Sym.f symS
 rw [there_f h1]
 simp only [Option.bind_some]
 cases ht : thereS l0 l1 s with
 | false => rfl
 | true =>
  rw [if_pos rfl, if_pos rfl]
  simp only [thereS, Bool.and_eq_true, decide_eq_true_eq] at ht
  by_cases h : s < 0
  ·have hw : wrap64 (-1 - s) = -1 - s := wrap_id (by omega) (by omega)
   rw [if_pos h, if_pos h, hw, if_pos (by omega), if_pos (by omega)]; rfl
  ·rw [if_neg h, if_neg h, if_pos (by omega), if_pos (by omega)]; rfl
theorem rsym_all (h1 : l1.length ≤ 140737488355328) (s : Int) : arboristref15_Sym.f l0 l1 l2 l3 l4 s = some (symS l0 l1 s) := by
 unfold arboristref15_Sym.f symS
 rw [is_f h1]
 simp only [Option.bind_some]
 cases ht : thereS l0 l1 s with
 | false => rfl
 | true =>
  rw [if_pos rfl, if_pos rfl]
  simp only [thereS, Bool.and_eq_true, decide_eq_true_eq] at ht
  by_cases h : s < 0
  ·have hw : wrap64 (-1 - s) = -1 - s := wrap_id (by omega) (by omega)
   rw [if_neg (by omega), if_pos h, hw, if_pos (by omega), if_pos (by omega)]; rfl
  ·rw [if_pos (by omega), if_neg h, if_pos (by omega), if_pos (by omega)]; rfl
theorem sym_size (b0 : ∀ y ∈ l0, y.size ≤ 1048576) (b1 : ∀ y ∈ l1, y.size ≤ 1048576) (s : Int) : (symS l0 l1 s).size ≤ 1048576 := by
 unfold symS
 split
 ·rename_i ht
  simp only [thereS, Bool.and_eq_true, decide_eq_true_eq] at ht
  split
  ·exact b1 _ (getD_mem (by omega) _)
  ·exact b0 _ (getD_mem (by omega) _)
 ·exact (by decide : (⟨#[63]⟩ : ByteArray).size ≤ 1048576)
end
end
section
open Go.Proofs.YtphmgaijkdflnaaDoorW.PrintWords Go.Proofs.YtphmgaijkdflnaaDoorW.PrintLast Go.Proofs.YtphmgaijkdflnaaDoorW.PrintMore
open Go.Maps
def oneOf (s : ByteArray) : Int × Int := if s.size = 0 then (0, 0) else (((Utf8.decode s 0).1 : Int), ((Utf8.decode s 0).2 : Int))
def arboristref01_one.f (a0 : ByteArray) : Option (Int × Int) := some (oneOf a0)
theorem ret_two {a b c d : Int} (h : (a, b) = (c, d)) : Ending.returned (.tuple #[.int .i32 a, .int .i64 b]) = .returned (.tuple #[.int .i32 c, .int .i64 d]) := by
 obtain ⟨rfl, rfl⟩ : a = c ∧ b = d := by simpa using h
 rfl
def OneRel (s : ByteArray) (w : World) (v4 v5 : Value) (wr : World) : Prop :=
 Below w.heap.size w wr ∧ v4 = .int .i64 s.size ∧ ((wr.heap[w.heap.size]? = some (.stringIter s 0) ∧ v5 = .int .i32 0) ∨ (0 < s.size ∧ wr.heap[w.heap.size]? = some (.stringIter s (Utf8.decode s 0).2) ∧ v5 = .int .i32 (Utf8.decode s 0).1))
theorem arboristref01_one.calls (a0 : ByteArray) (r1 : Int) (r2 : Int) (w : World) (h : arboristref01_one.f a0 = some (r1, r2)) :
  Calls Tryd.prog 82 #[.string a0] w fun e w' => e = .returned (.tuple #[.int .i32 r1, .int .i64 r2]) ∧ Below w.heap.size w w' := by
 have HP := Aside0.mk (Option.some.inj h)
 clear h
 go_enter Tryd.func82, Tryd.ntmps82
 go_wp2
 go_loopw [4, 5] (fun v4 v5 wr => OneRel a0 w v4 v5 wr) (fun _ _ wr => a0.size - wr.iterPos w.heap.size)
 case atStart => exact ⟨below_alloc (Below.refl _ _) _, rfl, .inl ⟨World.iter_heap w a0 0, rfl⟩⟩
 case round =>
  obtain ⟨hB, rfl, (⟨hit, rfl⟩ | ⟨h0, hit, rfl⟩)⟩ := hrel
  ·by_cases hp : 0 < a0.size
   ·have hnx : ∀ ty, (Instr.next (.pointer (some ⟨w.heap.size, 0, none⟩)) true ty).run Tryd.prog wr = _ := fun ty => Lib.run_next_any_at wr w.heap.size a0 0 ty hit hp
    have hwd := rune_w_pos a0 0
    have hit2 := Lib.iterAt_heap wr w.heap.size a0 0 (0 + (Utf8.decode a0 0).2) hit
    have hb2 := Lib.below_iterAt hB (k := w.heap.size) (Nat.le_refl _) a0 (0 + (Utf8.decode a0 0).2)
    rw [Nat.zero_add] at hit2 hb2
    have HIT := Aside0.mk hit
    have HIT2 := Aside0.mk hit2
    have HB2 := Aside0.mk hb2
    clear hit hit2 hb2 hB
    go_wp2
    go_roundw
    case rel => exact ⟨HB2.out, rfl, .inr ⟨hp, HIT2.out, rfl⟩⟩
    case measure => simp only [World.iterPos, HIT.out, HIT2.out]; omega
   ·have hnx : ∀ ty, (Instr.next (.pointer (some ⟨w.heap.size, 0, none⟩)) true ty).run Tryd.prog wr = _ := fun ty => Lib.run_next_end_at wr w.heap.size a0 0 ty hit hp
    have HB := Aside0.mk hB
    clear hit hB
    go_wp2
    go_ret2
    exact ⟨ret_two (by rw [← HP.out]; have hz : a0.size = 0 := (by omega); simp [oneOf, hz]), HB.out⟩
  ·by_cases hp : (Utf8.decode a0 0).2 < a0.size
   ·have hnx : ∀ ty, (Instr.next (.pointer (some ⟨w.heap.size, 0, none⟩)) true ty).run Tryd.prog wr = _ := fun ty => Lib.run_next_any_at wr w.heap.size a0 _ ty hit hp
    have hwd := rune_w_pos a0 0
    have hb2 := Lib.below_iterAt hB (k := w.heap.size) (Nat.le_refl _) a0 ((Utf8.decode a0 0).2 + (Utf8.decode a0 (Utf8.decode a0 0).2).2)
    have HB2 := Aside0.mk hb2
    clear hit hb2 hB
    have h1 : 0 < ((Utf8.decode a0 0).2 : Int) := by omega
    go_wp2
    go_ret2
    exact ⟨ret_two (by rw [← HP.out]; unfold oneOf; rw [if_neg (by omega)]), HB2.out⟩
   ·have hnx : ∀ ty, (Instr.next (.pointer (some ⟨w.heap.size, 0, none⟩)) true ty).run Tryd.prog wr = _ := fun ty => Lib.run_next_end_at wr w.heap.size a0 _ ty hit hp
    have HB := Aside0.mk hB
    clear hit hB
    have hwl := rune_w_le a0 0 h0
    go_wp2
    go_ret2
    exact ⟨ret_two (by rw [← HP.out]; unfold oneOf; rw [if_neg (by omega)]; simp; omega), HB.out⟩
end
section
open Go.Proofs.YtphmgaijkdflnaaDoorW.PrintWords Go.Proofs.YtphmgaijkdflnaaDoorW.PrintLast Go.Proofs.YtphmgaijkdflnaaDoorW.PrintMore
attribute [local go_sem] max2_int min2_int max_two min_two max_three min_three max_four min_four
def arboristref01_Runes.l0 : Nat → ByteArray → List (S87) → Int → Option ((List (S87)))
 | 0, _, _, _ => none
 | k + 1, x0, x3, x4 => if x4 < (x0.size : Int) then (if 0 ≤ x4 then (if x4 ≤ (x0.size : Int) then ((arboristref01_one.f (x0.extract (x4 : Int).toNat x0.size)).bind fun bt275 => (if x3.length < 5864062014805 then (arboristref01_Runes.l0 k x0 (x3 ++ [(⟨bt275.1, x4, bt275.2⟩ : S87)]) (wrap64 (x4 + bt275.2))) else (none))) else (none)) else (none)) else (some x3)
def arboristref01_Runes.f (k : Nat) (a0 : ByteArray) : Option ((List (S87))) := arboristref01_Runes.l0 k a0 ([] : List (S87)) 0
theorem arboristref01_Runes.mono_l : ∀ k, (∀ y0 y1 y2, LeO (arboristref01_Runes.l0 k y0 y1 y2) (arboristref01_Runes.l0 (k + 1) y0 y1 y2))
 | 0 => fun _ _ _ r h => by simp [arboristref01_Runes.l0] at h
 | k + 1 => by
  have ih0 := arboristref01_Runes.mono_l k
  ·intro y0 y1 y2
   (unfold arboristref01_Runes.l0); exact qL
theorem arboristref01_Runes.mono : ∀ a0 k, LeO (arboristref01_Runes.f k a0) (arboristref01_Runes.f (k + 1) a0) := by
 (intro a0 k); have ih0 := arboristref01_Runes.mono_l k; (unfold arboristref01_Runes.f); exact qL
theorem arboristref01_Runes.calls (k : Nat) (a0 : ByteArray) (r : List (S87)) (w : World) (h : arboristref01_Runes.f k a0 = some r) :
  Calls Tryd.prog 70 #[.string a0] w fun e w' => ∃ v0_ : Value, e = .returned (v0_) ∧ Kd.R k87 87 w' w.heap.size (fun _ => True) v0_ r ∧ Below w.heap.size w w' := by
 have hu87 := Tryd.underlying87; have HB := qM (Below.refl w.heap.size w); have H : (arboristref01_Runes.l0 k a0 ([] : List (S87)) 0) = some r := h; clear h; have H' := qM H; clear H; (go_enter Tryd.func70, Tryd.ntmps70); go_wp2; (go_loopg [3, 4] k (fun kq v3 v4 w' => ∃ (x3_1 : List (S87)) (x4_1 : Int), v4 = .int .i64 x4_1 ∧ Aside0 (arboristref01_Runes.l0 kq a0 x3_1 x4_1 = some r) ∧ Aside0 (kq ≤ k) ∧ Aside0 (Kd.R k87 87 w' w.heap.size (fun _ => True) v3 x3_1) ∧ Aside0 (Below w.heap.size w w')))
 case atStart => exact ⟨(([] : List (S87))), (0), qV, H', ⟨Nat.le_refl _⟩, ⟨by first | exact Kd.R_nil _ _ _ _ _ | exact Kd.N_nil _ _ _ _ _ | exact Kd.V_nil _ _ _ _ _ | exact Kd.Q_nil _ _ _ _ _ | exact Kd.S_nil _ _ _ _ _⟩, ⟨qF⟩⟩
 case round =>
  (clear H'); obtain ⟨x3_1, x4_1, rfl, HA, HK1, HO_3, HB⟩ := hrel
  cases gk with
  | zero => exact absurd HA.out (by simp [arboristref01_Runes.l0])
  | succ k1 =>
   have H := HA.out; clear HA; (simp only [arboristref01_Runes.l0] at H); (refine iteD ?_ ?_ H <;> clear H <;> intro c2b0 H)
   ·refine iteM ?_ H
    clear H; (intro c3 H); have c3b0 := eq_true c3; have c3b1 := decide_eq_true c3; clear c3; refine iteM ?_ H; clear H; (intro c4 H); have c4b0 := eq_true c4; have c4b1 := decide_eq_true c4; clear c4; replace H := Option.bind_eq_some_iff.mp H; obtain ⟨⟨t275, t276⟩, A50, H⟩ := H; replace H : (if x3_1.length < 5864062014805 then (arboristref01_Runes.l0 k1 a0 (x3_1 ++ [(⟨t275, x4_1, t276⟩ : S87)]) (wrap64 (x4_1 + t276))) else (none)) = some r := H; have A5 := qM A50; clear A50; refine iteM ?_ H; clear H; (intro c6 H); have LMc6 := qM c6; clear c6; obtain ⟨y277, hy277⟩ : ∃ y_ : List (S87), y_ = (x3_1 ++ [(⟨t275, x4_1, t276⟩ : S87)]) := ⟨_, rfl⟩; (replace H : (arboristref01_Runes.l0 k1 a0 y277 (wrap64 (x4_1 + t276))) = some r := by first | (rw [hy277]; with_reducible exact H) | (have H2_ := (Option.bind_some _ _).symm.trans H; rw [hy277]; with_reducible exact H2_) | (have H2_ := (Option.bind_some _ _).symm.trans H; with_reducible exact H2_) | with_reducible exact H | (rw [hy277]; exact H) | exact H); have Ny277 := qM hy277; clear hy277; have H' := qM H; clear H
    go_wp2_with (first | ((with_reducible refine gate_callee (f := 82) rfl ?_); refine goesL_ (some 15) rfl rfl Tryd.func82 (by kernel_rfl) rfl #[.string (a0.extract (x4_1 : Int).toNat a0.size)] rfl (by (try simp only [List.map_toArray, List.map_cons, List.map_nil]); first | done | rfl | (simp only [List.length_drop, List.length_take]; rfl)) ?_; (with_reducible refine (arboristref01_one.calls (a0.extract (x4_1 : Int).toNat a0.size) t275 t276 _ A5.out).mono ?_); rintro e w7 ⟨rfl, hb⟩; refine ⟨_, rfl, ?_⟩; replace HO_3 := qM (Kd.R_below (by (with_reducible repeat (first | apply Kd.R_alloc | apply Kd.R_drewN | apply Kd.R_drew)); exact HO_3.out) hb); replace HB := qM (qP qF hb); (try clear hb); (try clear hb2); (try clear hk); (try clear hi)) | ((with_reducible refine gate_builtin (b := .append) (xs := #[.tmp 18, .tmp 23]) rfl ?_); at_builtin; refine Kd.R_append k87 (w0 := w) w.heap.size rfl (.tmp 18) (.tmp 23) 84 87 (.agg #[(.int .i32 0), (.int .i64 0), (.int .i64 0)]) 24 rfl Tryd.underlying84 info87 rfl (by decide) (by omega) u3 x3_1 (⟨t275, x4_1, t276⟩ : S87) [.int .i32 t275, .int .i64 x4_1, .int .i64 t276] (fun _ => True) (fun _ => False) rfl rfl ?aP (fun _ hk => hk.elim) ?aF ?aO ?aB ?aS ?aL ?_; (case aP => exact k87_mkM _ _ _ (⟨t275, x4_1, t276⟩ : S87)); (case aB => exact qF); (case aF => exact (fun _ _ => trivial)); (case aO => exact (by (with_reducible repeat (first | apply Kd.R_alloc | apply Kd.R_drewN | apply Kd.R_drew)); exact HO_3.out)); (case aS => exact (qZ qF)); (case aL => have := LMc6.out; omega); intro v278 w8 ho hb hg hat; rw [← Ny277.out] at ho; have n0_ := qM (hb); have n1_ := qM (ho); clear HB; clear HO_3; have HB := n0_; have HO279 := n1_; clear n0_ n1_; clear ho hb hg hat))
    go_roundg k1
    case measure => have := HK1.out; omega
    case rel => exact ⟨(y277), (wrap64 (x4_1 + t276)), qV, H', ⟨by have := HK1.out; omega⟩, ⟨by (with_reducible repeat (first | apply Kd.R_alloc | apply Kd.R_drewN | apply Kd.R_drew)); exact HO279.out⟩, ⟨qF⟩⟩
   ·obtain rfl := Option.some.inj H
    go_wp2; (go_ret); exact ⟨_, qE, by (with_reducible repeat (first | apply Kd.R_alloc | apply Kd.R_drewN | apply Kd.R_drew)); exact HO_3.out, qF⟩
def arboristref01_Hex.l0 : Nat → Int → Int → ByteArray → Option (ByteArray)
 | 0, _, _, _ => none
 | k + 1, x0, x1, x5 => if x0 > 0 then (if 0 ≤ (Int.tmod x0 16) then (if (Int.tmod x0 16) ≤ (wrap64 ((Int.tmod x0 16) + 1)) then (if (wrap64 ((Int.tmod x0 16) + 1)) ≤ 16 then (if ((⟨#[48, 49, 50, 51, 52, 53, 54, 55, 56, 57, 97, 98, 99, 100, 101, 102]⟩ : ByteArray).extract ((Int.tmod x0 16) : Int).toNat ((wrap64 ((Int.tmod x0 16) + 1)) : Int).toNat).size + x5.size ≤ 9223372036854775807 then (arboristref01_Hex.l0 k (wrap64 (Int.tdiv x0 16)) x1 (((⟨#[48, 49, 50, 51, 52, 53, 54, 55, 56, 57, 97, 98, 99, 100, 101, 102]⟩ : ByteArray).extract ((Int.tmod x0 16) : Int).toNat ((wrap64 ((Int.tmod x0 16) + 1)) : Int).toNat) ++ x5)) else (none)) else (none)) else (none)) else (none)) else (if (x5.size : Int) < x1 then (if 0 ≤ (Int.tmod x0 16) then (if (Int.tmod x0 16) ≤ (wrap64 ((Int.tmod x0 16) + 1)) then (if (wrap64 ((Int.tmod x0 16) + 1)) ≤ 16 then (if ((⟨#[48, 49, 50, 51, 52, 53, 54, 55, 56, 57, 97, 98, 99, 100, 101, 102]⟩ : ByteArray).extract ((Int.tmod x0 16) : Int).toNat ((wrap64 ((Int.tmod x0 16) + 1)) : Int).toNat).size + x5.size ≤ 9223372036854775807 then (arboristref01_Hex.l0 k (wrap64 (Int.tdiv x0 16)) x1 (((⟨#[48, 49, 50, 51, 52, 53, 54, 55, 56, 57, 97, 98, 99, 100, 101, 102]⟩ : ByteArray).extract ((Int.tmod x0 16) : Int).toNat ((wrap64 ((Int.tmod x0 16) + 1)) : Int).toNat) ++ x5)) else (none)) else (none)) else (none)) else (none)) else (some x5))
def arboristref01_Hex.f (k : Nat) (a0 : Int) (a1 : Int) : Option (ByteArray) := arboristref01_Hex.l0 k a0 a1 (⟨#[]⟩ : ByteArray)
theorem arboristref01_Hex.mono_l : ∀ k, (∀ y0 y1 y2, LeO (arboristref01_Hex.l0 k y0 y1 y2) (arboristref01_Hex.l0 (k + 1) y0 y1 y2))
 | 0 => fun _ _ _ r h => by simp [arboristref01_Hex.l0] at h
 | k + 1 => by
  have ih0 := arboristref01_Hex.mono_l k
  ·intro y0 y1 y2
   (unfold arboristref01_Hex.l0); exact qL
theorem arboristref01_Hex.mono : ∀ a0 a1 k, LeO (arboristref01_Hex.f k a0 a1) (arboristref01_Hex.f (k + 1) a0 a1) := by
 (intro a0 a1 k); have ih0 := arboristref01_Hex.mono_l k; (unfold arboristref01_Hex.f); exact qL
theorem arboristref01_Hex.calls (k : Nat) (a0 : Int) (a1 : Int) (r : ByteArray) (w : World) (h : arboristref01_Hex.f k a0 a1 = some r) :
  Calls Tryd.prog 72 #[.int .i64 a0, .int .i64 a1] w fun e w' => e = .returned (.string r) ∧ Drawn0 w w' := by
 have H : (arboristref01_Hex.l0 k a0 a1 (⟨#[]⟩ : ByteArray)) = some r := h; clear h; have H' := qM H; clear H; (go_enter Tryd.func72, Tryd.ntmps72); go_wp2; (go_loopg [0, 5] k (fun kq v0 v5 w' => ∃ (x0_1 : Int) (x5_1 : ByteArray), v0 = .int .i64 x0_1 ∧ v5 = .string x5_1 ∧ Aside0 (arboristref01_Hex.l0 kq x0_1 a1 x5_1 = some r) ∧ Aside0 (kq ≤ k) ∧ Drawn0 w w'))
 case atStart => exact ⟨(a0), ((⟨#[]⟩ : ByteArray)), qV, qV, H', ⟨Nat.le_refl _⟩, by repeat (first | exact Drawn0.refl _ | apply Drawn0.step)⟩
 case round =>
  (clear H'); (try clear p2); obtain ⟨x0_1, x5_1, rfl, rfl, HA, HK1, ⟨m1, rfl⟩⟩ := hrel
  cases gk with
  | zero => exact absurd HA.out (by simp [arboristref01_Hex.l0])
  | succ k1 =>
   have H := HA.out; clear HA; (simp only [arboristref01_Hex.l0] at H); (refine iteR ?_ ?_ H <;> clear H <;> intro c3 H)
   ·have c3b0 : decide (0 < x0_1) = true := decide_eq_true c3
    clear c3; obtain ⟨ji4, hji4⟩ : ∃ j_ : Int, (Int.tmod x0_1 16) = j_ := ⟨_, rfl⟩; (replace H : (if 0 ≤ (ji4) then (if (ji4) ≤ (wrap64 ((ji4) + 1)) then (if (wrap64 ((ji4) + 1)) ≤ 16 then (if ((⟨#[48, 49, 50, 51, 52, 53, 54, 55, 56, 57, 97, 98, 99, 100, 101, 102]⟩ : ByteArray).extract ((ji4) : Int).toNat ((wrap64 ((ji4) + 1)) : Int).toNat).size + x5_1.size ≤ 9223372036854775807 then (arboristref01_Hex.l0 k1 (wrap64 (Int.tdiv x0_1 16)) a1 (((⟨#[48, 49, 50, 51, 52, 53, 54, 55, 56, 57, 97, 98, 99, 100, 101, 102]⟩ : ByteArray).extract ((ji4) : Int).toNat ((wrap64 ((ji4) + 1)) : Int).toNat) ++ x5_1)) else (none)) else (none)) else (none)) else (none)) = some r := by first | (rw [hji4] at H; exact H) | (simp only [hji4] at H ⊢; exact H)); refine iteM ?_ H; clear H; (intro c5 H); have c5b0 := eq_true c5; have c5b1 := decide_eq_true c5; clear c5; refine iteM ?_ H; clear H; (intro c6 H); have c6b0 := eq_true c6; have c6b1 := decide_eq_true c6; refine iteM ?_ H; clear H; (intro c7 H); have c7b0 := eq_true c7; have c7b1 := decide_eq_true c7; refine iteM ?_ H; clear H; (intro c8 H); have c8b0 := eq_true c8; have c8b1 := decide_eq_true c8; (try have c8b2 : (9223372036854775807 < ((⟨#[48, 49, 50, 51, 52, 53, 54, 55, 56, 57, 97, 98, 99, 100, 101, 102]⟩ : ByteArray).extract ((ji4) : Int).toNat ((wrap64 ((ji4) + 1)) : Int).toNat).size + x5_1.size) = False := eq_false (Nat.not_lt.2 c8)); have H' := qM H; clear H; go_wp2; (go_roundg k1)
    case measure => have := HK1.out; omega
    case rel => exact ⟨(wrap64 (Int.tdiv x0_1 16)), (((⟨#[48, 49, 50, 51, 52, 53, 54, 55, 56, 57, 97, 98, 99, 100, 101, 102]⟩ : ByteArray).extract ((ji4) : Int).toNat ((wrap64 ((ji4) + 1)) : Int).toNat) ++ x5_1), qV, (by first | rfl | (simp; done) | (simp only [← hji4] <;> (first | rfl | simp)) | (simp [*]; done)), H', ⟨by have := HK1.out; omega⟩, by repeat (first | exact Drawn0.refl _ | apply Drawn0.step)⟩
   ·have c3b0 : decide (0 < x0_1) = false := decide_eq_false c3
    clear c3; (refine iteD ?_ ?_ H <;> clear H <;> intro c9b0 H)
    ·obtain ⟨ji10, hji10⟩ : ∃ j_ : Int, (Int.tmod x0_1 16) = j_ := ⟨_, rfl⟩
     (replace H : (if 0 ≤ (ji10) then (if (ji10) ≤ (wrap64 ((ji10) + 1)) then (if (wrap64 ((ji10) + 1)) ≤ 16 then (if ((⟨#[48, 49, 50, 51, 52, 53, 54, 55, 56, 57, 97, 98, 99, 100, 101, 102]⟩ : ByteArray).extract ((ji10) : Int).toNat ((wrap64 ((ji10) + 1)) : Int).toNat).size + x5_1.size ≤ 9223372036854775807 then (arboristref01_Hex.l0 k1 (wrap64 (Int.tdiv x0_1 16)) a1 (((⟨#[48, 49, 50, 51, 52, 53, 54, 55, 56, 57, 97, 98, 99, 100, 101, 102]⟩ : ByteArray).extract ((ji10) : Int).toNat ((wrap64 ((ji10) + 1)) : Int).toNat) ++ x5_1)) else (none)) else (none)) else (none)) else (none)) = some r := by first | (rw [hji10] at H; exact H) | (simp only [hji10] at H ⊢; exact H)); refine iteM ?_ H; clear H; (intro c11 H); have c11b0 := eq_true c11; have c11b1 := decide_eq_true c11; clear c11; refine iteM ?_ H; clear H; (intro c12 H); have c12b0 := eq_true c12; have c12b1 := decide_eq_true c12; refine iteM ?_ H; clear H; (intro c13 H); have c13b0 := eq_true c13; have c13b1 := decide_eq_true c13; refine iteM ?_ H; clear H; (intro c14 H); have c14b0 := eq_true c14; have c14b1 := decide_eq_true c14; (try have c14b2 : (9223372036854775807 < ((⟨#[48, 49, 50, 51, 52, 53, 54, 55, 56, 57, 97, 98, 99, 100, 101, 102]⟩ : ByteArray).extract ((ji10) : Int).toNat ((wrap64 ((ji10) + 1)) : Int).toNat).size + x5_1.size) = False := eq_false (Nat.not_lt.2 c14)); have H' := qM H; clear H; go_wp2; (go_roundg k1)
     case measure => have := HK1.out; omega
     case rel => exact ⟨(wrap64 (Int.tdiv x0_1 16)), (((⟨#[48, 49, 50, 51, 52, 53, 54, 55, 56, 57, 97, 98, 99, 100, 101, 102]⟩ : ByteArray).extract ((ji10) : Int).toNat ((wrap64 ((ji10) + 1)) : Int).toNat) ++ x5_1), qV, (by first | rfl | (simp; done) | (simp only [← hji10] <;> (first | rfl | simp)) | (simp [*]; done)), H', ⟨by have := HK1.out; omega⟩, by repeat (first | exact Drawn0.refl _ | apply Drawn0.step)⟩
    ·obtain rfl := Option.some.inj H
     go_wp2; (go_ret); exact ⟨qV, by repeat (first | exact Drawn0.refl _ | apply Drawn0.step)⟩
def arboristref01_Invalid.f (a0_0 : Int) (a0_1 : Int) (a0_2 : Int) : Option (Bool) := if a0_0 = 65533 then (some (a0_2 == 1)) else (some false)
theorem arboristref01_Invalid.calls (a0_0 : Int) (a0_1 : Int) (a0_2 : Int) (r : Bool) (w : World) (h : arboristref01_Invalid.f a0_0 a0_1 a0_2 = some r) :
  Calls Tryd.prog 71 #[.agg #[.int .i32 a0_0, .int .i64 a0_1, .int .i64 a0_2]] w fun e w' => e = .returned (.bool r) ∧ Below w.heap.size w w' := by
 have hu87 := Tryd.underlying87; have HB := qM (Below.refl w.heap.size w); have H : (if a0_0 = 65533 then (some (a0_2 == 1)) else (some false)) = some r := h; clear h; have HH_ := qM H; clear H; (go_enter Tryd.func71, Tryd.ntmps71)
 go_upto_region 1 with (first | ((with_reducible refine gate_dst (N := 1) rfl ?_); refine box_event ?hg (N := 1) ?hd (cs := #[.int .i32 a0_0, .int .i64 a0_1, .int .i64 a0_2]) (t := 87) ?hr ?_; (case hd | hg => rfl); (case hr => first | (go_simp; done) | (go_simp; rfl)); intro gb280 hg w3 hbox hb; have BK280 := qM (hbox); have GW280 := qM (qG hg); have GE280 := GW280; replace HB := qM (qP qF hb); clear hb hbox hg; have hz4 := bx3 BK280.out))
 have H := HH_.out; clear HH_; (refine iteE ?_ ?_ H <;> clear H <;> intro c2b0 c2b1 H)
 ·obtain rfl := Option.some.inj H
  go_wp2; (go_ret); exact ⟨qE, qF⟩
 ·intro c2
  obtain rfl := Option.some.inj H; go_wp2; (go_ret); exact ⟨qE, qF⟩
mutual
def arboristref01_Quote.l0 : Nat → ByteArray → ByteArray → List (S87) → Int → Option (ByteArray)
 | 0, _, _, _, _ => none
 | k + 1, x0, x3, x4, x5 => if x5 < (x4.length : Int) then (if 0 ≤ x5 then ((arboristref01_Invalid.f ((rd_T87 x4 x5).f0) ((rd_T87 x4 x5).f1) ((rd_T87 x4 x5).f2)).bind fun t286 => (if t286 = true then (if 0 ≤ ((rd_T87 x4 x5).f1) then (if ((rd_T87 x4 x5).f1) < (x0.size : Int) then ((arboristref01_Hex.f k (wrap64 (bt x0 ((rd_T87 x4 x5).f1))) 2).bind fun t288 => (if 3 + t288.size ≤ 9223372036854775807 then (if ((⟨#[92, 120, 123]⟩ : ByteArray) ++ t288).size + 1 ≤ 9223372036854775807 then (if x3.size + (((⟨#[92, 120, 123]⟩ : ByteArray) ++ t288) ++ (⟨#[125]⟩ : ByteArray)).size ≤ 9223372036854775807 then (arboristref01_Quote.l0 k x0 (x3 ++ (((⟨#[92, 120, 123]⟩ : ByteArray) ++ t288) ++ (⟨#[125]⟩ : ByteArray))) x4 (wrap64 (x5 + 1))) else (none)) else (none)) else (none))) else (none)) else (none)) else (if ((rd_T87 x4 x5).f0) = 34 then (arboristref01_Quote.j1 k x0 x3 x4 x5 ((rd_T87 x4 x5).f0) true) else (arboristref01_Quote.j1 k x0 x3 x4 x5 ((rd_T87 x4 x5).f0) (((rd_T87 x4 x5).f0) == 92))))) else (none)) else (if x3.size + 1 ≤ 9223372036854775807 then (some (x3 ++ (⟨#[34]⟩ : ByteArray))) else (none))
def arboristref01_Quote.j1 : Nat → ByteArray → ByteArray → List (S87) → Int → Int → Bool → Option (ByteArray)
 | 0, _, _, _, _, _, _ => none
 | k + 1, x0, x3, x4, x5, x6, x46 => if x46 = true then (if 0 ≤ x5 then (if x5 < (x4.length : Int) then (if 0 ≤ ((rd_T87 x4 x5).f1) then (if ((rd_T87 x4 x5).f1) ≤ (wrap64 (((rd_T87 x4 x5).f1) + 1)) then (if (wrap64 (((rd_T87 x4 x5).f1) + 1)) ≤ (x0.size : Int) then (if 1 + (x0.extract (((rd_T87 x4 x5).f1) : Int).toNat ((wrap64 (((rd_T87 x4 x5).f1) + 1)) : Int).toNat).size ≤ 9223372036854775807 then (if x3.size + ((⟨#[92]⟩ : ByteArray) ++ (x0.extract (((rd_T87 x4 x5).f1) : Int).toNat ((wrap64 (((rd_T87 x4 x5).f1) + 1)) : Int).toNat)).size ≤ 9223372036854775807 then (arboristref01_Quote.l0 k x0 (x3 ++ ((⟨#[92]⟩ : ByteArray) ++ (x0.extract (((rd_T87 x4 x5).f1) : Int).toNat ((wrap64 (((rd_T87 x4 x5).f1) + 1)) : Int).toNat))) x4 (wrap64 (x5 + 1))) else (none)) else (none)) else (none)) else (none)) else (none)) else (none)) else (none)) else (if x6 = 10 then (if x3.size + 2 ≤ 9223372036854775807 then (arboristref01_Quote.l0 k x0 (x3 ++ (⟨#[92, 110]⟩ : ByteArray)) x4 (wrap64 (x5 + 1))) else (none)) else (if x6 = 13 then (if x3.size + 2 ≤ 9223372036854775807 then (arboristref01_Quote.l0 k x0 (x3 ++ (⟨#[92, 114]⟩ : ByteArray)) x4 (wrap64 (x5 + 1))) else (none)) else (if x6 = 9 then (if x3.size + 2 ≤ 9223372036854775807 then (arboristref01_Quote.l0 k x0 (x3 ++ (⟨#[92, 116]⟩ : ByteArray)) x4 (wrap64 (x5 + 1))) else (none)) else (if x6 ≥ 32 then (if x6 ≤ 126 then (if 0 ≤ x5 then (if x5 < (x4.length : Int) then (if 0 ≤ ((rd_T87 x4 x5).f1) then (if ((rd_T87 x4 x5).f1) ≤ (wrap64 (((rd_T87 x4 x5).f1) + 1)) then (if (wrap64 (((rd_T87 x4 x5).f1) + 1)) ≤ (x0.size : Int) then (if x3.size + (x0.extract (((rd_T87 x4 x5).f1) : Int).toNat ((wrap64 (((rd_T87 x4 x5).f1) + 1)) : Int).toNat).size ≤ 9223372036854775807 then (arboristref01_Quote.l0 k x0 (x3 ++ (x0.extract (((rd_T87 x4 x5).f1) : Int).toNat ((wrap64 (((rd_T87 x4 x5).f1) + 1)) : Int).toNat)) x4 (wrap64 (x5 + 1))) else (none)) else (none)) else (none)) else (none)) else (none)) else (none)) else ((arboristref01_Hex.f k (wrap64 (x6)) 1).bind fun t293 => (if 3 + t293.size ≤ 9223372036854775807 then (if ((⟨#[92, 117, 123]⟩ : ByteArray) ++ t293).size + 1 ≤ 9223372036854775807 then (if x3.size + (((⟨#[92, 117, 123]⟩ : ByteArray) ++ t293) ++ (⟨#[125]⟩ : ByteArray)).size ≤ 9223372036854775807 then (arboristref01_Quote.l0 k x0 (x3 ++ (((⟨#[92, 117, 123]⟩ : ByteArray) ++ t293) ++ (⟨#[125]⟩ : ByteArray))) x4 (wrap64 (x5 + 1))) else (none)) else (none)) else (none)))) else ((arboristref01_Hex.f k (wrap64 (x6)) 1).bind fun t294 => (if 3 + t294.size ≤ 9223372036854775807 then (if ((⟨#[92, 117, 123]⟩ : ByteArray) ++ t294).size + 1 ≤ 9223372036854775807 then (if x3.size + (((⟨#[92, 117, 123]⟩ : ByteArray) ++ t294) ++ (⟨#[125]⟩ : ByteArray)).size ≤ 9223372036854775807 then (arboristref01_Quote.l0 k x0 (x3 ++ (((⟨#[92, 117, 123]⟩ : ByteArray) ++ t294) ++ (⟨#[125]⟩ : ByteArray))) x4 (wrap64 (x5 + 1))) else (none)) else (none)) else (none)))))))
end
def arboristref01_Quote.f (k : Nat) (a0 : ByteArray) : Option (ByteArray) := (arboristref01_Runes.f k a0).bind fun t281 => (arboristref01_Quote.l0 k a0 (⟨#[34]⟩ : ByteArray) t281 0)
theorem arboristref01_Quote.calls (k : Nat) (a0 : ByteArray) (r : ByteArray) (w : World) (h : arboristref01_Quote.f k a0 = some r) :
  Calls Tryd.prog 48 #[.string a0] w fun e w' => e = .returned (.string r) ∧ Below w.heap.size w w' := by
 have hu87 := Tryd.underlying87; have HB := qM (Below.refl w.heap.size w); have H : ((arboristref01_Runes.f k a0).bind fun t281 => (arboristref01_Quote.l0 k a0 (⟨#[34]⟩ : ByteArray) t281 0)) = some r := h; clear h; replace H := Option.bind_eq_some_iff.mp H; obtain ⟨t281, A20, H⟩ := H; replace H : (arboristref01_Quote.l0 k a0 (⟨#[34]⟩ : ByteArray) t281 0) = some r := H; have A2 := qM A20; clear A20; have H' := qM H; clear H; (go_enter Tryd.func48, Tryd.ntmps48); (go_wp2_with (first | (go_at_call 70; (with_reducible refine (arboristref01_Runes.calls k a0 t281 _ A2.out).mono ?_); rintro e w3 ⟨v282, rfl, ho0, hb⟩; have HO283 := qM (Kd.R_lower ho0 (qZ qF)); replace HB := qM (qP qF hb); (try clear hb); (try clear hb2); (try clear hk); (try clear hi); (try clear ho0))))
 repeat (go_quiet (first | (go_at_call 70; (with_reducible refine (arboristref01_Runes.calls k a0 t281 _ A2.out).mono ?_); rintro e w3 ⟨v282, rfl, ho0, hb⟩; have HO283 := qM (Kd.R_lower ho0 (qZ qF)); replace HB := qM (qP qF hb); (try clear hb); (try clear hb2); (try clear hk); (try clear hi); (try clear ho0))); try go_wp2_with (first | (go_at_call 70; (with_reducible refine (arboristref01_Runes.calls k a0 t281 _ A2.out).mono ?_); rintro e w3 ⟨v282, rfl, ho0, hb⟩; have HO283 := qM (Kd.R_lower ho0 (qZ qF)); replace HB := qM (qP qF hb); (try clear hb); (try clear hb2); (try clear hk); (try clear hi); (try clear ho0))))
 go_loopg [3, 5] k (fun kq v3 v5 w' => ∃ (x3_1 : ByteArray) (x5_1 : Int), v3 = .string x3_1 ∧ v5 = .int .i64 x5_1 ∧ Aside0 (arboristref01_Quote.l0 kq a0 x3_1 t281 x5_1 = some r) ∧ Aside0 (kq ≤ k) ∧ Aside0 (Kd.R k87 87 w' w.heap.size (fun _ => True) v282 t281) ∧ Aside0 (Below w.heap.size w w'))
 case atStart => exact ⟨((⟨#[34]⟩ : ByteArray)), (0), qV, qV, H', ⟨Nat.le_refl _⟩, ⟨by (with_reducible repeat (first | apply Kd.R_alloc | apply Kd.R_drewN | apply Kd.R_drew)); exact HO283.out⟩, ⟨qF⟩⟩
 case round =>
  (clear H'); (try clear p2); obtain ⟨x3_1, x5_1, rfl, rfl, HA, HK1, HO_4, HB⟩ := hrel
  cases gk with
  | zero => exact absurd HA.out (by simp [arboristref01_Quote.l0])
  | succ k1 =>
   have H := HA.out; clear HA; (simp only [arboristref01_Quote.l0] at H); (refine iteD ?_ ?_ H <;> clear H <;> intro c4b0 H)
   ·refine iteN ?_ H
    clear H; (intro c5b0 H); replace H := Option.bind_eq_some_iff.mp H; obtain ⟨t286, A60, H⟩ := H
    replace H : (if t286 = true then (if 0 ≤ ((rd_T87 t281 x5_1).f1) then (if ((rd_T87 t281 x5_1).f1) < (a0.size : Int) then ((arboristref01_Hex.f k1 (wrap64 (bt a0 ((rd_T87 t281 x5_1).f1))) 2).bind fun t288 => (if 3 + t288.size ≤ 9223372036854775807 then (if ((⟨#[92, 120, 123]⟩ : ByteArray) ++ t288).size + 1 ≤ 9223372036854775807 then (if x3_1.size + (((⟨#[92, 120, 123]⟩ : ByteArray) ++ t288) ++ (⟨#[125]⟩ : ByteArray)).size ≤ 9223372036854775807 then (arboristref01_Quote.l0 k1 a0 (x3_1 ++ (((⟨#[92, 120, 123]⟩ : ByteArray) ++ t288) ++ (⟨#[125]⟩ : ByteArray))) t281 (wrap64 (x5_1 + 1))) else (none)) else (none)) else (none))) else (none)) else (none)) else (if ((rd_T87 t281 x5_1).f0) = 34 then (arboristref01_Quote.j1 k1 a0 x3_1 t281 x5_1 ((rd_T87 t281 x5_1).f0) true) else (arboristref01_Quote.j1 k1 a0 x3_1 t281 x5_1 ((rd_T87 t281 x5_1).f0) (((rd_T87 t281 x5_1).f0) == 92)))) = some r := H
    have A6 := qM A60; clear A60; (refine iteR ?_ ?_ H <;> clear H <;> intro c7 H)
    ·subst c7
     refine iteN ?_ H; clear H; (intro c8b0 H); refine iteN ?_ H; clear H; (intro c9b0 H); replace H := Option.bind_eq_some_iff.mp H; obtain ⟨t288, A110, H⟩ := H; replace H : (if 3 + t288.size ≤ 9223372036854775807 then (if ((⟨#[92, 120, 123]⟩ : ByteArray) ++ t288).size + 1 ≤ 9223372036854775807 then (if x3_1.size + (((⟨#[92, 120, 123]⟩ : ByteArray) ++ t288) ++ (⟨#[125]⟩ : ByteArray)).size ≤ 9223372036854775807 then (arboristref01_Quote.l0 k1 a0 (x3_1 ++ (((⟨#[92, 120, 123]⟩ : ByteArray) ++ t288) ++ (⟨#[125]⟩ : ByteArray))) t281 (wrap64 (x5_1 + 1))) else (none)) else (none)) else (none)) = some r := H; have A11 := qM A110; clear A110; refine iteM ?_ H; clear H; (intro c12 H); have c12b0 := eq_true c12; have c12b1 := decide_eq_true c12; (try have c12b2 : (9223372036854775807 < 3 + t288.size) = False := eq_false (Nat.not_lt.2 c12)); refine iteM ?_ H; clear H; (intro c13 H); have c13b0 := eq_true c13; have c13b1 := decide_eq_true c13; (try have c13b2 : (9223372036854775807 < ((⟨#[92, 120, 123]⟩ : ByteArray) ++ t288).size + 1) = False := eq_false (Nat.not_lt.2 c13)); (try have c13b3 : (9223372036854775807 < 3 + t288.size + 1) = False := eq_false (Nat.not_lt.2 (by have h_ := c13; simp only [ByteArray.size_append] at h_; exact h_))); refine iteM ?_ H; clear H; (intro c14 H); have c14b0 := eq_true c14; have c14b1 := decide_eq_true c14; (try have c14b2 : (9223372036854775807 < x3_1.size + (((⟨#[92, 120, 123]⟩ : ByteArray) ++ t288) ++ (⟨#[125]⟩ : ByteArray)).size) = False := eq_false (Nat.not_lt.2 c14)); (try have c14b3 : (9223372036854775807 < x3_1.size + (3 + t288.size + 1)) = False := eq_false (Nat.not_lt.2 (by have h_ := c14; simp only [ByteArray.size_append] at h_; exact h_))); have H' := qM H; clear H; obtain ⟨Ao15, co15, eo15⟩ := Kd.R_slice HO_4.out; subst eo15; have p284 : 0 ≤ (x5_1 : Int) := qo qX; have q284 : x5_1 < (t281.length : Int) := qo qX; obtain ⟨ad284, e284, hx284_0, hx284_1, hx284_2⟩ := at_T87 (Kd.R_reads' HO_4.out).2.2 x5_1 p284 q284
     cases e284
     replace p284 := eq_true p284; replace q284 := eq_true q284; have p285 : 0 ≤ (x5_1 : Int) := qo qX; have q285 : x5_1 < (t281.length : Int) := qo qX; obtain ⟨ad285, e285, hx285_0, hx285_1, hx285_2⟩ := at_T87 (Kd.R_reads' HO_4.out).2.2 x5_1 p285 q285; obtain rfl : ad284 = ad285 := (by injection e285); replace p285 := eq_true p285; replace q285 := eq_true q285
     go_wp2_with (first | (go_at_call 71; (with_reducible refine (arboristref01_Invalid.calls ((rd_T87 t281 x5_1).f0) ((rd_T87 t281 x5_1).f1) ((rd_T87 t281 x5_1).f2) true _ A6.out).mono ?_); rintro e w16 ⟨rfl, hb⟩; replace HO_4 := qM (Kd.R_below (by (with_reducible repeat (first | apply Kd.R_alloc | apply Kd.R_drewN | apply Kd.R_drew)); exact HO_4.out) hb); replace HB := qM (qP qF hb); (try clear hb); (try clear hb2); (try clear hk); (try clear hi); have p287 : 0 ≤ (x5_1 : Int) := qo qX; have q287 : x5_1 < (t281.length : Int) := qo qX; obtain ⟨ad287, e287, hx287_0, hx287_1, hx287_2⟩ := at_T87 (Kd.R_reads' HO_4.out).2.2 x5_1 p287 q287; obtain rfl : ad284 = ad287 := (by injection e287); replace p287 := eq_true p287; replace q287 := eq_true q287; have p10 : 0 ≤ (((rd_T87 t281 x5_1).f1) : Int) := qo qX; have q10 : ((rd_T87 t281 x5_1).f1) < (a0.size : Int) := qo qX; have hx10 := bt_at a0 ((rd_T87 t281 x5_1).f1); replace p10 := eq_true p10; replace q10 := eq_true q10) | (go_at_call 72; (with_reducible refine (arboristref01_Hex.calls k1 (wrap64 (bt a0 ((rd_T87 t281 x5_1).f1))) 2 t288 _ A11.out).mono ?_); rintro e w' ⟨rfl, ⟨nd, rfl⟩⟩; (try first | exact ⟨rfl, _, World.drewN_drewN _ _ _⟩ | exact ⟨rfl, _, Eq.trans (World.drewN_drewN _ _ _) (congrArg (World.drewN _) (Nat.add_assoc _ _ _))⟩)))
     repeat (go_quiet (first | (go_at_call 71; (with_reducible refine (arboristref01_Invalid.calls ((rd_T87 t281 x5_1).f0) ((rd_T87 t281 x5_1).f1) ((rd_T87 t281 x5_1).f2) true _ A6.out).mono ?_); rintro e w16 ⟨rfl, hb⟩; replace HO_4 := qM (Kd.R_below (by (with_reducible repeat (first | apply Kd.R_alloc | apply Kd.R_drewN | apply Kd.R_drew)); exact HO_4.out) hb); replace HB := qM (qP qF hb); (try clear hb); (try clear hb2); (try clear hk); (try clear hi); have p287 : 0 ≤ (x5_1 : Int) := qo qX; have q287 : x5_1 < (t281.length : Int) := qo qX; obtain ⟨ad287, e287, hx287_0, hx287_1, hx287_2⟩ := at_T87 (Kd.R_reads' HO_4.out).2.2 x5_1 p287 q287; obtain rfl : ad284 = ad287 := (by injection e287); replace p287 := eq_true p287; replace q287 := eq_true q287; have p10 : 0 ≤ (((rd_T87 t281 x5_1).f1) : Int) := qo qX; have q10 : ((rd_T87 t281 x5_1).f1) < (a0.size : Int) := qo qX; have hx10 := bt_at a0 ((rd_T87 t281 x5_1).f1); replace p10 := eq_true p10; replace q10 := eq_true q10) | (go_at_call 72; (with_reducible refine (arboristref01_Hex.calls k1 (wrap64 (bt a0 ((rd_T87 t281 x5_1).f1))) 2 t288 _ A11.out).mono ?_); rintro e w' ⟨rfl, ⟨nd, rfl⟩⟩; (try first | exact ⟨rfl, _, World.drewN_drewN _ _ _⟩ | exact ⟨rfl, _, Eq.trans (World.drewN_drewN _ _ _) (congrArg (World.drewN _) (Nat.add_assoc _ _ _))⟩))); try go_wp2_with (first | (go_at_call 71; (with_reducible refine (arboristref01_Invalid.calls ((rd_T87 t281 x5_1).f0) ((rd_T87 t281 x5_1).f1) ((rd_T87 t281 x5_1).f2) true _ A6.out).mono ?_); rintro e w16 ⟨rfl, hb⟩; replace HO_4 := qM (Kd.R_below (by (with_reducible repeat (first | apply Kd.R_alloc | apply Kd.R_drewN | apply Kd.R_drew)); exact HO_4.out) hb); replace HB := qM (qP qF hb); (try clear hb); (try clear hb2); (try clear hk); (try clear hi); have p287 : 0 ≤ (x5_1 : Int) := qo qX; have q287 : x5_1 < (t281.length : Int) := qo qX; obtain ⟨ad287, e287, hx287_0, hx287_1, hx287_2⟩ := at_T87 (Kd.R_reads' HO_4.out).2.2 x5_1 p287 q287; obtain rfl : ad284 = ad287 := (by injection e287); replace p287 := eq_true p287; replace q287 := eq_true q287; have p10 : 0 ≤ (((rd_T87 t281 x5_1).f1) : Int) := qo qX; have q10 : ((rd_T87 t281 x5_1).f1) < (a0.size : Int) := qo qX; have hx10 := bt_at a0 ((rd_T87 t281 x5_1).f1); replace p10 := eq_true p10; replace q10 := eq_true q10) | (go_at_call 72; (with_reducible refine (arboristref01_Hex.calls k1 (wrap64 (bt a0 ((rd_T87 t281 x5_1).f1))) 2 t288 _ A11.out).mono ?_); rintro e w' ⟨rfl, ⟨nd, rfl⟩⟩; (try first | exact ⟨rfl, _, World.drewN_drewN _ _ _⟩ | exact ⟨rfl, _, Eq.trans (World.drewN_drewN _ _ _) (congrArg (World.drewN _) (Nat.add_assoc _ _ _))⟩))))
     go_roundg k1
     case measure => have := HK1.out; omega
     case rel => exact ⟨(x3_1 ++ (((⟨#[92, 120, 123]⟩ : ByteArray) ++ t288) ++ (⟨#[125]⟩ : ByteArray))), (wrap64 (x5_1 + 1)), qV, qV, H', ⟨by have := HK1.out; omega⟩, ⟨by (with_reducible repeat (first | apply Kd.R_alloc | apply Kd.R_drewN | apply Kd.R_drew)); exact HO_4.out⟩, ⟨qF⟩⟩
    ·replace c7 := Bool.eq_false_iff.mpr c7
     subst c7; have HC17 := qM H; clear H; obtain ⟨Ao18, co18, eo18⟩ := Kd.R_slice HO_4.out; subst eo18; have p284 : 0 ≤ (x5_1 : Int) := qo qX; have q284 : x5_1 < (t281.length : Int) := qo qX; obtain ⟨ad284, e284, hx284_0, hx284_1, hx284_2⟩ := at_T87 (Kd.R_reads' HO_4.out).2.2 x5_1 p284 q284
     cases e284
     replace p284 := eq_true p284; replace q284 := eq_true q284; have p285 : 0 ≤ (x5_1 : Int) := qo qX; have q285 : x5_1 < (t281.length : Int) := qo qX; obtain ⟨ad285, e285, hx285_0, hx285_1, hx285_2⟩ := at_T87 (Kd.R_reads' HO_4.out).2.2 x5_1 p285 q285; obtain rfl : ad284 = ad285 := (by injection e285); replace p285 := eq_true p285; replace q285 := eq_true q285; (go_upto_region 10 with (first | (go_at_call 71; (with_reducible refine (arboristref01_Invalid.calls ((rd_T87 t281 x5_1).f0) ((rd_T87 t281 x5_1).f1) ((rd_T87 t281 x5_1).f2) false _ A6.out).mono ?_); rintro e w19 ⟨rfl, hb⟩; replace HO_4 := qM (Kd.R_below (by (with_reducible repeat (first | apply Kd.R_alloc | apply Kd.R_drewN | apply Kd.R_drew)); exact HO_4.out) hb); replace HB := qM (qP qF hb); (try clear hb); (try clear hb2); (try clear hk); (try clear hi))))
     repeat (go_quiet (first | (go_at_call 71; (with_reducible refine (arboristref01_Invalid.calls ((rd_T87 t281 x5_1).f0) ((rd_T87 t281 x5_1).f1) ((rd_T87 t281 x5_1).f2) false _ A6.out).mono ?_); rintro e w19 ⟨rfl, hb⟩; replace HO_4 := qM (Kd.R_below (by (with_reducible repeat (first | apply Kd.R_alloc | apply Kd.R_drewN | apply Kd.R_drew)); exact HO_4.out) hb); replace HB := qM (qP qF hb); (try clear hb); (try clear hb2); (try clear hk); (try clear hi))); go_upto_region 10 with (first | (go_at_call 71; (with_reducible refine (arboristref01_Invalid.calls ((rd_T87 t281 x5_1).f0) ((rd_T87 t281 x5_1).f1) ((rd_T87 t281 x5_1).f2) false _ A6.out).mono ?_); rintro e w19 ⟨rfl, hb⟩; replace HO_4 := qM (Kd.R_below (by (with_reducible repeat (first | apply Kd.R_alloc | apply Kd.R_drewN | apply Kd.R_drew)); exact HO_4.out) hb); replace HB := qM (qP qF hb); (try clear hb); (try clear hb2); (try clear hk); (try clear hi))))
     (try simp only [Act.put, List.setIfInBounds_toArray, List.set_cons_zero, List.set_cons_succ]); (go_cut [46] (fun v46 wc => ∃ (kq : Nat) (x46_16 : Bool), v46 = .bool x46_16 ∧ Aside0 (arboristref01_Quote.j1 kq a0 x3_1 t281 x5_1 ((rd_T87 t281 x5_1).f0) x46_16 = some r) ∧ Aside0 (kq ≤ k1) ∧ Aside0 (Kd.R k87 87 wc w.heap.size (fun _ => True) (.slice (some ad284) t281.length co18) t281) ∧ Aside0 (Below w.heap.size w wc)))
     case first =>
      have H := HC17.out; clear HC17; (refine iteE ?_ ?_ H <;> clear H <;> intro c20b0 c20b1 H)
      ·(first | rw [c20b0] | (simp only [i64_w, i32_w]; rw [c20b0]) | skip)
       have H' := qM H; clear H; go_wp2; (repeat (go_quiet (fail); try go_wp2)); go_meet
       case rel => exact ⟨_, (true), qV, H', ⟨by have := HK1.out; first | omega | exact Nat.le_refl _⟩, ⟨by (with_reducible repeat (first | apply Kd.R_alloc | apply Kd.R_drewN | apply Kd.R_drew)); exact HO_4.out⟩, ⟨qF⟩⟩
      ·intro c20
       (first | rw [c20b0] | (simp only [i64_w, i32_w]; rw [c20b0]) | skip); have H' := qM H; clear H; go_wp2; (repeat (go_quiet (fail); try go_wp2)); go_meet
       case rel => exact ⟨_, ((((rd_T87 t281 x5_1).f0) == 92)), qV, H', ⟨by have := HK1.out; first | omega | exact Nat.le_refl _⟩, ⟨by (with_reducible repeat (first | apply Kd.R_alloc | apply Kd.R_drewN | apply Kd.R_drew)); exact HO_4.out⟩, ⟨qF⟩⟩
     case rest =>
      clear HC17; (try clear c1); (try clear p1); (try clear q1); (try clear hx1); (try clear c2); (try clear p2); (try clear q2); (try clear hx2); (try clear c4); (try clear c4b0); (try clear c5); (try clear c5b0); (try clear p6); (try clear c7); (try clear c8); (try clear c8b0); (try clear c9); (try clear c9b0); (try clear p10); (try clear q10); (try clear hx10); (try clear c12); (try clear c12b0); (try clear c12b1); (try clear c12b2); (try clear c13); (try clear c13b0); (try clear c13b1); (try clear c13b2); (try clear c14); (try clear c14b0); (try clear c14b1); (try clear c14b2); (try clear c20); (try clear c20b0); (try clear c20b1); (try clear hx284_0 hx284_1 hx284_2); (try clear hx285_0 hx285_1 hx285_2); (try clear hx287_0 hx287_1 hx287_2); (try clear p10); (try clear p2); (try clear p284); (try clear p285); (try clear p287); (try clear q10); (try clear q284); (try clear q285); (try clear q287); obtain ⟨kq, x46_16, rfl, HA, HJ16, HO_4, HB⟩ := hcut
      cases kq with
      | zero => exact absurd HA.out (by simp [arboristref01_Quote.j1])
      | succ kj16 =>
       have H := HA.out; clear HA; (simp only [arboristref01_Quote.j1] at H); (refine iteR ?_ ?_ H <;> clear H <;> intro c21 H)
       ·subst c21
        refine iteN ?_ H; clear H; (intro c22b0 H); refine iteN ?_ H; clear H; (intro c23b0 H); refine iteM ?_ H; clear H; (intro c24 H); have c24b0 := eq_true c24; have c24b1 := decide_eq_true c24; clear c24; refine iteM ?_ H; clear H; (intro c25 H); have c25b0 := eq_true c25; have c25b1 := decide_eq_true c25; refine iteM ?_ H; clear H; (intro c26 H); have c26b0 := eq_true c26; have c26b1 := decide_eq_true c26; refine iteM ?_ H; clear H; (intro c27 H); have c27b0 := eq_true c27; have c27b1 := decide_eq_true c27; (try have c27b2 : (9223372036854775807 < 1 + (a0.extract (((rd_T87 t281 x5_1).f1) : Int).toNat ((wrap64 (((rd_T87 t281 x5_1).f1) + 1)) : Int).toNat).size) = False := eq_false (Nat.not_lt.2 c27)); (try have c27b4 : (9223372036854775807 < 1 + (((wrap64 (((rd_T87 t281 x5_1).f1) + 1)) : Int).toNat - (((rd_T87 t281 x5_1).f1) : Int).toNat)) = False := eq_false (Nat.not_lt.2 (by have h_ := c27; simp only [ByteArray.size_append, ByteArray.size_extract] at h_; omega))); refine iteM ?_ H; clear H; (intro c28 H); have c28b0 := eq_true c28; have c28b1 := decide_eq_true c28; (try have c28b2 : (9223372036854775807 < x3_1.size + ((⟨#[92]⟩ : ByteArray) ++ (a0.extract (((rd_T87 t281 x5_1).f1) : Int).toNat ((wrap64 (((rd_T87 t281 x5_1).f1) + 1)) : Int).toNat)).size) = False := eq_false (Nat.not_lt.2 c28)); (try have c28b3 : (9223372036854775807 < x3_1.size + (1 + (a0.extract (((rd_T87 t281 x5_1).f1) : Int).toNat ((wrap64 (((rd_T87 t281 x5_1).f1) + 1)) : Int).toNat).size)) = False := eq_false (Nat.not_lt.2 (by have h_ := c28; simp only [ByteArray.size_append] at h_; exact h_))); (try have c28b4 : (9223372036854775807 < x3_1.size + (1 + (((wrap64 (((rd_T87 t281 x5_1).f1) + 1)) : Int).toNat - (((rd_T87 t281 x5_1).f1) : Int).toNat))) = False := eq_false (Nat.not_lt.2 (by have h_ := c28; simp only [ByteArray.size_append, ByteArray.size_extract] at h_; omega))); have H' := qM H; clear H; have p289 : 0 ≤ (x5_1 : Int) := qo qX; have q289 : x5_1 < (t281.length : Int) := qo qX; obtain ⟨ad289, e289, hx289_0, hx289_1, hx289_2⟩ := at_T87 (Kd.R_reads' HO_4.out).2.2 x5_1 p289 q289; obtain rfl : ad284 = ad289 := (by injection e289); replace p289 := eq_true p289; replace q289 := eq_true q289; have p290 : 0 ≤ (x5_1 : Int) := qo qX; have q290 : x5_1 < (t281.length : Int) := qo qX; obtain ⟨ad290, e290, hx290_0, hx290_1, hx290_2⟩ := at_T87 (Kd.R_reads' HO_4.out).2.2 x5_1 p290 q290
        obtain rfl : ad284 = ad290 := (by injection e290); replace p290 := eq_true p290; replace q290 := eq_true q290; go_wp2; (repeat (go_quiet (fail); try go_wp2)); (go_roundg kj16)
        case measure => have := HK1.out; have := HJ16.out; omega
        case rel => exact ⟨(x3_1 ++ ((⟨#[92]⟩ : ByteArray) ++ (a0.extract (((rd_T87 t281 x5_1).f1) : Int).toNat ((wrap64 (((rd_T87 t281 x5_1).f1) + 1)) : Int).toNat))), (wrap64 (x5_1 + 1)), qV, qV, H', ⟨by have := HK1.out; have := HJ16.out; omega⟩, ⟨by (with_reducible repeat (first | apply Kd.R_alloc | apply Kd.R_drewN | apply Kd.R_drew)); exact HO_4.out⟩, ⟨qF⟩⟩
       ·replace c21 := Bool.eq_false_iff.mpr c21
        subst c21; (refine iteE ?_ ?_ H <;> clear H <;> intro c29b0 c29b1 H)
        ·refine iteM ?_ H
         clear H; (intro c30 H); have c30b0 := eq_true c30; have c30b1 := decide_eq_true c30; (try have c30b2 : (9223372036854775807 < x3_1.size + 2) = False := eq_false (Nat.not_lt.2 c30)); have H' := qM H; clear H; go_wp2; (repeat (go_quiet (fail); try go_wp2)); (go_roundg kj16)
         case measure => have := HK1.out; have := HJ16.out; omega
         case rel => exact ⟨(x3_1 ++ (⟨#[92, 110]⟩ : ByteArray)), (wrap64 (x5_1 + 1)), qV, qV, H', ⟨by have := HK1.out; have := HJ16.out; omega⟩, ⟨by (with_reducible repeat (first | apply Kd.R_alloc | apply Kd.R_drewN | apply Kd.R_drew)); exact HO_4.out⟩, ⟨qF⟩⟩
        ·intro c29
         refine iteE ?_ ?_ H <;> clear H <;> intro c31b0 c31b1 H
         ·refine iteM ?_ H
          clear H; (intro c32 H); have c32b0 := eq_true c32; have c32b1 := decide_eq_true c32; (try have c32b2 : (9223372036854775807 < x3_1.size + 2) = False := eq_false (Nat.not_lt.2 c32)); have H' := qM H; clear H; go_wp2; (repeat (go_quiet (fail); try go_wp2)); (go_roundg kj16)
          case measure => have := HK1.out; have := HJ16.out; omega
          case rel => exact ⟨(x3_1 ++ (⟨#[92, 114]⟩ : ByteArray)), (wrap64 (x5_1 + 1)), qV, qV, H', ⟨by have := HK1.out; have := HJ16.out; omega⟩, ⟨by (with_reducible repeat (first | apply Kd.R_alloc | apply Kd.R_drewN | apply Kd.R_drew)); exact HO_4.out⟩, ⟨qF⟩⟩
         ·intro c31
          refine iteE ?_ ?_ H <;> clear H <;> intro c33b0 c33b1 H
          ·refine iteM ?_ H
           clear H; (intro c34 H); have c34b0 := eq_true c34; have c34b1 := decide_eq_true c34; (try have c34b2 : (9223372036854775807 < x3_1.size + 2) = False := eq_false (Nat.not_lt.2 c34)); have H' := qM H; clear H; go_wp2; (repeat (go_quiet (fail); try go_wp2)); (go_roundg kj16)
           case measure => have := HK1.out; have := HJ16.out; omega
           case rel => exact ⟨(x3_1 ++ (⟨#[92, 116]⟩ : ByteArray)), (wrap64 (x5_1 + 1)), qV, qV, H', ⟨by have := HK1.out; have := HJ16.out; omega⟩, ⟨by (with_reducible repeat (first | apply Kd.R_alloc | apply Kd.R_drewN | apply Kd.R_drew)); exact HO_4.out⟩, ⟨qF⟩⟩
          ·intro c33
           refine iteR ?_ ?_ H <;> clear H <;> intro c35 H
           ·have c35b0 : decide (32 ≤ ((rd_T87 t281 x5_1).f0)) = true := decide_eq_true c35
            clear c35; (refine iteD ?_ ?_ H <;> clear H <;> intro c36b0 H)
            ·refine iteN ?_ H
             clear H; (intro c37b0 H); refine iteN ?_ H; clear H; (intro c38b0 H); refine iteM ?_ H; clear H; (intro c39 H); have c39b0 := eq_true c39; have c39b1 := decide_eq_true c39; clear c39; refine iteM ?_ H; clear H; (intro c40 H); have c40b0 := eq_true c40; have c40b1 := decide_eq_true c40; refine iteM ?_ H; clear H; (intro c41 H); have c41b0 := eq_true c41; have c41b1 := decide_eq_true c41; refine iteM ?_ H; clear H; (intro c42 H); have c42b0 := eq_true c42; have c42b1 := decide_eq_true c42; (try have c42b2 : (9223372036854775807 < x3_1.size + (a0.extract (((rd_T87 t281 x5_1).f1) : Int).toNat ((wrap64 (((rd_T87 t281 x5_1).f1) + 1)) : Int).toNat).size) = False := eq_false (Nat.not_lt.2 c42)); (try have c42b4 : (9223372036854775807 < x3_1.size + (((wrap64 (((rd_T87 t281 x5_1).f1) + 1)) : Int).toNat - (((rd_T87 t281 x5_1).f1) : Int).toNat)) = False := eq_false (Nat.not_lt.2 (by have h_ := c42; simp only [ByteArray.size_append, ByteArray.size_extract] at h_; omega))); have H' := qM H; clear H; have p291 : 0 ≤ (x5_1 : Int) := qo qX; have q291 : x5_1 < (t281.length : Int) := qo qX; obtain ⟨ad291, e291, hx291_0, hx291_1, hx291_2⟩ := at_T87 (Kd.R_reads' HO_4.out).2.2 x5_1 p291 q291; obtain rfl : ad284 = ad291 := (by injection e291); replace p291 := eq_true p291; replace q291 := eq_true q291; have p292 : 0 ≤ (x5_1 : Int) := qo qX; have q292 : x5_1 < (t281.length : Int) := qo qX; obtain ⟨ad292, e292, hx292_0, hx292_1, hx292_2⟩ := at_T87 (Kd.R_reads' HO_4.out).2.2 x5_1 p292 q292; obtain rfl : ad284 = ad292 := (by injection e292); replace p292 := eq_true p292; replace q292 := eq_true q292; go_wp2; (repeat (go_quiet (fail); try go_wp2)); (go_roundg kj16)
             case measure => have := HK1.out; have := HJ16.out; omega
             case rel => exact ⟨(x3_1 ++ (a0.extract (((rd_T87 t281 x5_1).f1) : Int).toNat ((wrap64 (((rd_T87 t281 x5_1).f1) + 1)) : Int).toNat)), (wrap64 (x5_1 + 1)), qV, qV, H', ⟨by have := HK1.out; have := HJ16.out; omega⟩, ⟨by (with_reducible repeat (first | apply Kd.R_alloc | apply Kd.R_drewN | apply Kd.R_drew)); exact HO_4.out⟩, ⟨qF⟩⟩
            ·replace H := Option.bind_eq_some_iff.mp H
             obtain ⟨t293, A430, H⟩ := H; replace H : (if 3 + t293.size ≤ 9223372036854775807 then (if ((⟨#[92, 117, 123]⟩ : ByteArray) ++ t293).size + 1 ≤ 9223372036854775807 then (if x3_1.size + (((⟨#[92, 117, 123]⟩ : ByteArray) ++ t293) ++ (⟨#[125]⟩ : ByteArray)).size ≤ 9223372036854775807 then (arboristref01_Quote.l0 kj16 a0 (x3_1 ++ (((⟨#[92, 117, 123]⟩ : ByteArray) ++ t293) ++ (⟨#[125]⟩ : ByteArray))) t281 (wrap64 (x5_1 + 1))) else (none)) else (none)) else (none)) = some r := H; have A43 := qM A430; clear A430; refine iteM ?_ H; clear H; (intro c44 H); have c44b0 := eq_true c44; have c44b1 := decide_eq_true c44; (try have c44b2 : (9223372036854775807 < 3 + t293.size) = False := eq_false (Nat.not_lt.2 c44)); refine iteM ?_ H; clear H; (intro c45 H); have c45b0 := eq_true c45; have c45b1 := decide_eq_true c45; (try have c45b2 : (9223372036854775807 < ((⟨#[92, 117, 123]⟩ : ByteArray) ++ t293).size + 1) = False := eq_false (Nat.not_lt.2 c45)); (try have c45b3 : (9223372036854775807 < 3 + t293.size + 1) = False := eq_false (Nat.not_lt.2 (by have h_ := c45; simp only [ByteArray.size_append] at h_; exact h_))); refine iteM ?_ H; clear H; (intro c46 H); have c46b0 := eq_true c46; have c46b1 := decide_eq_true c46; (try have c46b2 : (9223372036854775807 < x3_1.size + (((⟨#[92, 117, 123]⟩ : ByteArray) ++ t293) ++ (⟨#[125]⟩ : ByteArray)).size) = False := eq_false (Nat.not_lt.2 c46)); (try have c46b3 : (9223372036854775807 < x3_1.size + (3 + t293.size + 1)) = False := eq_false (Nat.not_lt.2 (by have h_ := c46; simp only [ByteArray.size_append] at h_; exact h_))); have H' := qM H; clear H; (go_wp2_with (first | (go_at_call 72; (with_reducible refine (arboristref01_Hex.calls kj16 (wrap64 (((rd_T87 t281 x5_1).f0))) 1 t293 _ A43.out).mono ?_); rintro e w' ⟨rfl, ⟨nd, rfl⟩⟩; (try first | exact ⟨rfl, _, World.drewN_drewN _ _ _⟩ | exact ⟨rfl, _, Eq.trans (World.drewN_drewN _ _ _) (congrArg (World.drewN _) (Nat.add_assoc _ _ _))⟩)))); (repeat (go_quiet (first | (go_at_call 72; (with_reducible refine (arboristref01_Hex.calls kj16 (wrap64 (((rd_T87 t281 x5_1).f0))) 1 t293 _ A43.out).mono ?_); rintro e w' ⟨rfl, ⟨nd, rfl⟩⟩; (try first | exact ⟨rfl, _, World.drewN_drewN _ _ _⟩ | exact ⟨rfl, _, Eq.trans (World.drewN_drewN _ _ _) (congrArg (World.drewN _) (Nat.add_assoc _ _ _))⟩))); try go_wp2_with (first | (go_at_call 72; (with_reducible refine (arboristref01_Hex.calls kj16 (wrap64 (((rd_T87 t281 x5_1).f0))) 1 t293 _ A43.out).mono ?_); rintro e w' ⟨rfl, ⟨nd, rfl⟩⟩; (try first | exact ⟨rfl, _, World.drewN_drewN _ _ _⟩ | exact ⟨rfl, _, Eq.trans (World.drewN_drewN _ _ _) (congrArg (World.drewN _) (Nat.add_assoc _ _ _))⟩)))))
             go_roundg kj16
             case measure => have := HK1.out; have := HJ16.out; omega
             case rel => exact ⟨(x3_1 ++ (((⟨#[92, 117, 123]⟩ : ByteArray) ++ t293) ++ (⟨#[125]⟩ : ByteArray))), (wrap64 (x5_1 + 1)), qV, qV, H', ⟨by have := HK1.out; have := HJ16.out; omega⟩, ⟨by (with_reducible repeat (first | apply Kd.R_alloc | apply Kd.R_drewN | apply Kd.R_drew)); exact HO_4.out⟩, ⟨qF⟩⟩
           ·have c35b0 : decide (32 ≤ ((rd_T87 t281 x5_1).f0)) = false := decide_eq_false c35
            clear c35; replace H := Option.bind_eq_some_iff.mp H; obtain ⟨t294, A470, H⟩ := H; replace H : (if 3 + t294.size ≤ 9223372036854775807 then (if ((⟨#[92, 117, 123]⟩ : ByteArray) ++ t294).size + 1 ≤ 9223372036854775807 then (if x3_1.size + (((⟨#[92, 117, 123]⟩ : ByteArray) ++ t294) ++ (⟨#[125]⟩ : ByteArray)).size ≤ 9223372036854775807 then (arboristref01_Quote.l0 kj16 a0 (x3_1 ++ (((⟨#[92, 117, 123]⟩ : ByteArray) ++ t294) ++ (⟨#[125]⟩ : ByteArray))) t281 (wrap64 (x5_1 + 1))) else (none)) else (none)) else (none)) = some r := H; have A47 := qM A470; clear A470; refine iteM ?_ H; clear H; (intro c48 H); have c48b0 := eq_true c48; have c48b1 := decide_eq_true c48; (try have c48b2 : (9223372036854775807 < 3 + t294.size) = False := eq_false (Nat.not_lt.2 c48)); refine iteM ?_ H; clear H; (intro c49 H); have c49b0 := eq_true c49; have c49b1 := decide_eq_true c49; (try have c49b2 : (9223372036854775807 < ((⟨#[92, 117, 123]⟩ : ByteArray) ++ t294).size + 1) = False := eq_false (Nat.not_lt.2 c49)); (try have c49b3 : (9223372036854775807 < 3 + t294.size + 1) = False := eq_false (Nat.not_lt.2 (by have h_ := c49; simp only [ByteArray.size_append] at h_; exact h_))); refine iteM ?_ H; clear H; (intro c50 H); have c50b0 := eq_true c50; have c50b1 := decide_eq_true c50; (try have c50b2 : (9223372036854775807 < x3_1.size + (((⟨#[92, 117, 123]⟩ : ByteArray) ++ t294) ++ (⟨#[125]⟩ : ByteArray)).size) = False := eq_false (Nat.not_lt.2 c50)); (try have c50b3 : (9223372036854775807 < x3_1.size + (3 + t294.size + 1)) = False := eq_false (Nat.not_lt.2 (by have h_ := c50; simp only [ByteArray.size_append] at h_; exact h_))); have H' := qM H; clear H; (go_wp2_with (first | (go_at_call 72; (with_reducible refine (arboristref01_Hex.calls kj16 (wrap64 (((rd_T87 t281 x5_1).f0))) 1 t294 _ A47.out).mono ?_); rintro e w' ⟨rfl, ⟨nd, rfl⟩⟩; (try first | exact ⟨rfl, _, World.drewN_drewN _ _ _⟩ | exact ⟨rfl, _, Eq.trans (World.drewN_drewN _ _ _) (congrArg (World.drewN _) (Nat.add_assoc _ _ _))⟩)))); (repeat (go_quiet (first | (go_at_call 72; (with_reducible refine (arboristref01_Hex.calls kj16 (wrap64 (((rd_T87 t281 x5_1).f0))) 1 t294 _ A47.out).mono ?_); rintro e w' ⟨rfl, ⟨nd, rfl⟩⟩; (try first | exact ⟨rfl, _, World.drewN_drewN _ _ _⟩ | exact ⟨rfl, _, Eq.trans (World.drewN_drewN _ _ _) (congrArg (World.drewN _) (Nat.add_assoc _ _ _))⟩))); try go_wp2_with (first | (go_at_call 72; (with_reducible refine (arboristref01_Hex.calls kj16 (wrap64 (((rd_T87 t281 x5_1).f0))) 1 t294 _ A47.out).mono ?_); rintro e w' ⟨rfl, ⟨nd, rfl⟩⟩; (try first | exact ⟨rfl, _, World.drewN_drewN _ _ _⟩ | exact ⟨rfl, _, Eq.trans (World.drewN_drewN _ _ _) (congrArg (World.drewN _) (Nat.add_assoc _ _ _))⟩)))))
            go_roundg kj16
            case measure => have := HK1.out; have := HJ16.out; omega
            case rel => exact ⟨(x3_1 ++ (((⟨#[92, 117, 123]⟩ : ByteArray) ++ t294) ++ (⟨#[125]⟩ : ByteArray))), (wrap64 (x5_1 + 1)), qV, qV, H', ⟨by have := HK1.out; have := HJ16.out; omega⟩, ⟨by (with_reducible repeat (first | apply Kd.R_alloc | apply Kd.R_drewN | apply Kd.R_drew)); exact HO_4.out⟩, ⟨qF⟩⟩
   ·refine iteM ?_ H
    clear H; (intro c51 H); have c51b0 := eq_true c51; have c51b1 := decide_eq_true c51; (try have c51b2 : (9223372036854775807 < x3_1.size + 1) = False := eq_false (Nat.not_lt.2 c51)); obtain rfl := Option.some.inj H; obtain ⟨Ao52, co52, eo52⟩ := Kd.R_slice HO_4.out; subst eo52; go_wp2; (repeat (go_quiet (fail); try go_wp2)); (go_ret); exact ⟨qE, qF⟩
mutual
def arboristref42_Show.j0 : Nat → Bool → List ByteArray → List ByteArray → List Int → List (S58) → List (S61) → Int → Int → Int → Int → List (S46) → ByteArray → List (S26) → Option (ByteArray)
 | 0, _, _, _, _, _, _, _, _, _, _, _, _, _ => none
 | k + 1, x17, x296000, x296001, x296002, x296003, x296004, x297000, x297001, x297002, x297003, x297004, x297005, x297006 => if x17 = true then ((arboristref15_Sym.f x296000 x296001 x296002 x296003 x296004 x297000).bind fun t297 => (if 1 + t297.size ≤ 9223372036854775807 then (some ((⟨#[33]⟩ : ByteArray) ++ t297)) else (none))) else (if x297000 > 0 then ((arboristref01_Quote.f k x297005).bind fun t298 => (some t298)) else (if x297003 = 2 then (arboristref42_Show.j1 k (⟨#[40, 33]⟩ : ByteArray) x296000 x296001 x296002 x296003 x296004 x297000 x297001 x297002 x297003 x297004 x297005 x297006) else (arboristref42_Show.j1 k (⟨#[40]⟩ : ByteArray) x296000 x296001 x296002 x296003 x296004 x297000 x297001 x297002 x297003 x297004 x297005 x297006)))
def arboristref42_Show.j1 : Nat → ByteArray → List ByteArray → List ByteArray → List Int → List (S58) → List (S61) → Int → Int → Int → Int → List (S46) → ByteArray → List (S26) → Option (ByteArray)
 | 0, _, _, _, _, _, _, _, _, _, _, _, _, _ => none
 | k + 1, x5, x296000, x296001, x296002, x296003, x296004, x297000, x297001, x297002, x297003, x297004, x297005, x297006 => (arboristref15_Sym.f x296000 x296001 x296002 x296003 x296004 x297000).bind fun t299 => (if x5.size + t299.size ≤ 9223372036854775807 then (arboristref42_Show.l0 k (x5 ++ t299) 0 x296000 x296001 x296002 x296003 x296004 x297000 x297001 x297002 x297003 x297004 x297005 x297006) else (none))
def arboristref42_Show.l0 : Nat → ByteArray → Int → List ByteArray → List ByteArray → List Int → List (S58) → List (S61) → Int → Int → Int → Int → List (S46) → ByteArray → List (S26) → Option (ByteArray)
 | 0, _, _, _, _, _, _, _, _, _, _, _, _, _, _ => none
 | k + 1, x5, x6, x296000, x296001, x296002, x296003, x296004, x297000, x297001, x297002, x297003, x297004, x297005, x297006 => if x6 < (x297006.length : Int) then (if x5.size + 1 ≤ 9223372036854775807 then (if 0 ≤ x6 then ((arboristref42_Show.f k x296000 x296001 x296002 x296003 x296004 ((rd_T26 x297006 x6).f0) ((rd_T26 x297006 x6).f1) ((rd_T26 x297006 x6).f2) ((rd_T26 x297006 x6).f3) ((rd_T26 x297006 x6).f4) ((rd_T26 x297006 x6).f5) ((rd_T26 x297006 x6).f6)).bind fun t301 => (if (x5 ++ (⟨#[32]⟩ : ByteArray)).size + t301.size ≤ 9223372036854775807 then (arboristref42_Show.l0 k ((x5 ++ (⟨#[32]⟩ : ByteArray)) ++ t301) (wrap64 (x6 + 1)) x296000 x296001 x296002 x296003 x296004 x297000 x297001 x297002 x297003 x297004 x297005 x297006) else (none))) else (none)) else (none)) else (if x5.size + 1 ≤ 9223372036854775807 then (some (x5 ++ (⟨#[41]⟩ : ByteArray))) else (none))
def arboristref42_Show.f : Nat → List ByteArray → List ByteArray → List Int → List (S58) → List (S61) → Int → Int → Int → Int → List (S46) → ByteArray → List (S26) → Option (ByteArray)
 | 0, _, _, _, _, _, _, _, _, _, _, _, _ => none
 | k + 1, l0_0, l0_1, l0_2, l0_3, l0_4, a1_0, a1_1, a1_2, a1_3, l1_4, a1_5, l1_6 => if a1_0 = 0 then (some (⟨#[36, 101, 110, 100]⟩ : ByteArray)) else (if a1_0 > 0 then (arboristref42_Show.j0 k (a1_3 == 1) l0_0 l0_1 l0_2 l0_3 l0_4 a1_0 a1_1 a1_2 a1_3 l1_4 a1_5 l1_6) else (arboristref42_Show.j0 k false l0_0 l0_1 l0_2 l0_3 l0_4 a1_0 a1_1 a1_2 a1_3 l1_4 a1_5 l1_6))
end
def arboristref42_Show.T14 : Bool × List (List Nat × List Nat) := (true, [([], []), ([0], [0]), ([], []), ([], []), ([3], [3]), ([], []), ([4, 5], [4, 5]), ([6], [6]), ([2, 7], [2, 7]), ([1, 8], [1, 8]), ([9, 8, 0, 1, 2, 3, 4, 5, 6, 7, 8, 9], [0, 9])])
def arboristref42_Show.B14 : List Nat := [0, 1, 0, 0, 8, 0, 56, 120, 252, 511, 1023]
theorem arboristref42_Show.tab14 : rtab .any (opsOf Tryd.f27 14) = arboristref42_Show.T14 := by kernel_rfl
theorem arboristref42_Show.bits14 : waitsOk arboristref42_Show.T14.2 arboristref42_Show.B14 = true := by kernel_rfl
theorem arboristref42_Show.calls (k : Nat) : ∀ (A0_0 : Option Addr) (c0_0 : Nat) (l0_0 : List ByteArray) (A0_1 : Option Addr) (c0_1 : Nat) (l0_1 : List ByteArray) (A0_2 : Option Addr) (c0_2 : Nat) (l0_2 : List Int) (A0_3 : Option Addr) (c0_3 : Nat) (l0_3 : List (S58)) (A0_4 : Option Addr) (c0_4 : Nat) (l0_4 : List (S61)) (a1_0 : Int) (a1_1 : Int) (a1_2 : Int) (a1_3 : Int) (A1_4 : Option Addr) (c1_4 : Nat) (l1_4 : List (S46)) (a1_5 : ByteArray) (A1_6 : Option Addr) (c1_6 : Nat) (l1_6 : List (S26)) (r : ByteArray) (w : World) (hr0_0 : Kd.C Kd.string w A0_0 l0_0.length l0_0) (hc0_0 : l0_0.length ≤ c0_0) (hr0_1 : Kd.C Kd.string w A0_1 l0_1.length l0_1) (hc0_1 : l0_1.length ≤ c0_1) (hr0_2 : Kd.C (Kd.int .i64) w A0_2 l0_2.length l0_2) (hc0_2 : l0_2.length ≤ c0_2) (hr0_3 : Kd.C k58 w A0_3 l0_3.length l0_3) (hc0_3 : l0_3.length ≤ c0_3) (hr0_4 : Kd.C k61 w A0_4 l0_4.length l0_4) (hc0_4 : l0_4.length ≤ c0_4) (hr1_4 : Kd.C k46 w A1_4 l1_4.length l1_4) (hc1_4 : l1_4.length ≤ c1_4) (hr1_6 : Kd.C k26 w A1_6 l1_6.length l1_6) (hc1_6 : l1_6.length ≤ c1_6) (h : arboristref42_Show.f k l0_0 l0_1 l0_2 l0_3 l0_4 a1_0 a1_1 a1_2 a1_3 l1_4 a1_5 l1_6 = some r),
  Calls Tryd.prog 27 #[.agg #[.slice A0_0 l0_0.length c0_0, .slice A0_1 l0_1.length c0_1, .slice A0_2 l0_2.length c0_2, .slice A0_3 l0_3.length c0_3, .slice A0_4 l0_4.length c0_4], .agg #[.int .i64 a1_0, .int .i64 a1_1, .int .i64 a1_2, .int .i64 a1_3, .slice A1_4 l1_4.length c1_4, .string a1_5, .slice A1_6 l1_6.length c1_6]] w fun e w' => e = .returned (.string r) ∧ Below w.heap.size w w' := by
 induction k using Nat.strongRecOn with
 | _ k ih =>
 intro A0_0 c0_0 l0_0 A0_1 c0_1 l0_1 A0_2 c0_2 l0_2 A0_3 c0_3 l0_3 A0_4 c0_4 l0_4 a1_0 a1_1 a1_2 a1_3 A1_4 c1_4 l1_4 a1_5 A1_6 c1_6 l1_6 r w hr0_0 hc0_0 hr0_1 hc0_1 hr0_2 hc0_2 hr0_3 hc0_3 hr0_4 hc0_4 hr1_4 hc1_4 hr1_6 hc1_6 h
 cases k with
 | zero => exact absurd h (by simp [arboristref42_Show.f])
 | succ k =>
 (simp only [arboristref42_Show.f] at h); have hu40 := Tryd.underlying40; have hu26 := Tryd.underlying26; have HR0_0 := qM hr0_0; have HC0_0 := qM hc0_0; clear hr0_0 hc0_0; have HR0_1 := qM hr0_1; have HC0_1 := qM hc0_1; clear hr0_1 hc0_1; have HR0_2 := qM hr0_2; have HC0_2 := qM hc0_2; clear hr0_2 hc0_2; have HR0_3 := qM hr0_3; have HC0_3 := qM hc0_3; clear hr0_3 hc0_3; have HR0_4 := qM hr0_4; have HC0_4 := qM hc0_4; clear hr0_4 hc0_4; have HR1_4 := qM hr1_4; have HC1_4 := qM hc1_4; clear hr1_4 hc1_4; have HR1_6 := qM hr1_6; have HC1_6 := qM hc1_6; clear hr1_6 hc1_6; have HB := qM (Below.refl w.heap.size w); have H : (if a1_0 = 0 then (some (⟨#[36, 101, 110, 100]⟩ : ByteArray)) else (if a1_0 > 0 then (arboristref42_Show.j0 k (a1_3 == 1) l0_0 l0_1 l0_2 l0_3 l0_4 a1_0 a1_1 a1_2 a1_3 l1_4 a1_5 l1_6) else (arboristref42_Show.j0 k false l0_0 l0_1 l0_2 l0_3 l0_4 a1_0 a1_1 a1_2 a1_3 l1_4 a1_5 l1_6))) = some r := h; clear h; (refine iteE ?_ ?_ H <;> clear H <;> intro c3b0 c3b1 H)
 ·obtain rfl := Option.some.inj H
  go_enter Tryd.func27, Tryd.ntmps27
  go_wp2_with (first | ((with_reducible refine gate_dst (N := 2) rfl ?_); refine box_event ?hg (N := 2) ?hd (cs := #[.slice A0_0 l0_0.length c0_0, .slice A0_1 l0_1.length c0_1, .slice A0_2 l0_2.length c0_2, .slice A0_3 l0_3.length c0_3, .slice A0_4 l0_4.length c0_4]) (t := 40) ?hr ?_; (case hd | hg => rfl); (case hr => first | (go_simp; done) | (go_simp; rfl)); intro gb295 hg w4 hbox hb; have BK295 := qM (hbox); have GW295 := qM (qG hg); have GE295 := GW295; replace HB := qM (qP qF hb); clear hb hbox hg) | ((with_reducible refine gate_dst (N := 3) rfl ?_); refine box_event ?hg (N := 3) ?hd (cs := #[.int .i64 a1_0, .int .i64 a1_1, .int .i64 a1_2, .int .i64 a1_3, .slice A1_4 l1_4.length c1_4, .string a1_5, .slice A1_6 l1_6.length c1_6]) (t := 26) ?hr ?_; (case hd | hg => rfl); (case hr => first | (go_simp; done) | (go_simp; rfl)); intro gb296 hg w5 hbox hb; have BK296 := qM (hbox); have GW296 := qM (qG hg); have GE296 := GW296; have NB295_296 := qM ((by rw [hg]; exact Nat.ne_of_lt (ql (g := gb295) qK) : gb295 ≠ gb296)); have NB296_295 := qM (Ne.symm NB295_296.out); replace BK295 := qM (qb (g := gb295) qK hb); replace HB := qM (qP qF hb); clear hb hbox hg; have hnb6 := NB296_295.out; have hnc6 := NB295_296.out; have hz7 := bx7 BK296.out))
  (go_ret); exact ⟨qE, qF⟩
 ·intro c3
  have HC8 := qM H; clear H; (go_enter Tryd.func27, Tryd.ntmps27)
  go_upto_region 3 with (first | ((with_reducible refine gate_dst (N := 2) rfl ?_); refine box_event ?hg (N := 2) ?hd (cs := #[.slice A0_0 l0_0.length c0_0, .slice A0_1 l0_1.length c0_1, .slice A0_2 l0_2.length c0_2, .slice A0_3 l0_3.length c0_3, .slice A0_4 l0_4.length c0_4]) (t := 40) ?hr ?_; (case hd | hg => rfl); (case hr => first | (go_simp; done) | (go_simp; rfl)); intro gb295 hg w9 hbox hb; have BK295 := qM (hbox); have GW295 := qM (qG hg); have GE295 := GW295; replace HB := qM (qP qF hb); clear hb hbox hg) | ((with_reducible refine gate_dst (N := 3) rfl ?_); refine box_event ?hg (N := 3) ?hd (cs := #[.int .i64 a1_0, .int .i64 a1_1, .int .i64 a1_2, .int .i64 a1_3, .slice A1_4 l1_4.length c1_4, .string a1_5, .slice A1_6 l1_6.length c1_6]) (t := 26) ?hr ?_; (case hd | hg => rfl); (case hr => first | (go_simp; done) | (go_simp; rfl)); intro gb296 hg w10 hbox hb; have BK296 := qM (hbox); have GW296 := qM (qG hg); have GE296 := GW296; have NB295_296 := qM ((by rw [hg]; exact Nat.ne_of_lt (ql (g := gb295) qK) : gb295 ≠ gb296)); have NB296_295 := qM (Ne.symm NB295_296.out); replace BK295 := qM (qb (g := gb295) qK hb); replace HB := qM (qP qF hb); clear hb hbox hg; have hnb11 := NB296_295.out; have hnc11 := NB295_296.out; have hz12 := bx7 BK296.out))
  (try simp only [Act.put, List.setIfInBounds_toArray, List.set_cons_zero, List.set_cons_succ]); (go_cut [17] (fun v17 wc => ∃ (kq : Nat) (x17_7 : Bool), v17 = .bool x17_7 ∧ Aside0 (arboristref42_Show.j0 kq x17_7 l0_0 l0_1 l0_2 l0_3 l0_4 a1_0 a1_1 a1_2 a1_3 l1_4 a1_5 l1_6 = some r) ∧ Aside0 (kq ≤ k) ∧ Aside0 (wc.heap[gb295]? = some (.cells #[(.slice A0_0 l0_0.length c0_0), (.slice A0_1 l0_1.length c0_1), (.slice A0_2 l0_2.length c0_2), (.slice A0_3 l0_3.length c0_3), (.slice A0_4 l0_4.length c0_4)] 40 (0, 0))) ∧ Aside0 (wc.heap[gb296]? = some (.cells #[.int .i64 a1_0, .int .i64 a1_1, .int .i64 a1_2, .int .i64 a1_3, (.slice A1_4 l1_4.length c1_4), .string a1_5, (.slice A1_6 l1_6.length c1_6)] 26 (0, 0))) ∧ Aside0 (Below w.heap.size w wc)))
  case first =>
   have H := HC8.out; clear HC8; have hnb14 := NB296_295.out; have hnc14 := NB295_296.out; have hz15 := bx7 BK296.out; (refine iteR ?_ ?_ H <;> clear H <;> intro c13 H)
   ·have c13b0 : decide (0 < a1_0) = true := decide_eq_true c13
    clear c13; (first | rw [c13b0] | (simp only [i64_w, i32_w]; rw [c13b0]) | skip); have H' := qM H; clear H; go_wp2; go_meet
    case rel => exact ⟨_, ((a1_3 == 1)), qV, H', ⟨by first | omega | exact Nat.le_refl _⟩, ⟨qK⟩, ⟨qK⟩, ⟨qF⟩⟩
   ·have c13b0 : decide (0 < a1_0) = false := decide_eq_false c13
    clear c13; (first | rw [c13b0] | (simp only [i64_w, i32_w]; rw [c13b0]) | skip); have H' := qM H; clear H; go_wp2; go_meet
    case rel => exact ⟨_, (false), qV, H', ⟨by first | omega | exact Nat.le_refl _⟩, ⟨qK⟩, ⟨qK⟩, ⟨qF⟩⟩
  case rest =>
   clear HC8; (try clear c1); (try clear c2); (try clear p2); (try clear c3); (try clear c3b0); (try clear c3b1); (try clear c6); (try clear c11); (try clear c13); (try clear c13b0); (try clear c14); (try clear c16); (try clear hz12); (try clear hz15); (try clear hz7); obtain ⟨kq, x17_7, rfl, HA, HJ7, BK295, BK296, HB⟩ := hcut
   cases kq with
   | zero => exact absurd HA.out (by simp [arboristref42_Show.j0])
   | succ kj7 =>
    have H := HA.out; clear HA; (simp only [arboristref42_Show.j0] at H); (refine iteR ?_ ?_ H <;> clear H <;> intro c18 H)
    ·subst c18
     replace H := Option.bind_eq_some_iff.mp H; obtain ⟨t297, A190, H⟩ := H; replace H : (if 1 + t297.size ≤ 9223372036854775807 then (some ((⟨#[33]⟩ : ByteArray) ++ t297)) else (none)) = some r := H; have A19 := qM A190; clear A190; refine iteM ?_ H; clear H; (intro c20 H); have c20b0 := eq_true c20; have c20b1 := decide_eq_true c20; (try have c20b2 : (9223372036854775807 < 1 + t297.size) = False := eq_false (Nat.not_lt.2 c20)); obtain rfl := Option.some.inj H; have hnb21 := NB295_296.out; have hnc21 := NB296_295.out; have hz22 := bx5 BK295.out; have hz23 := bx7 BK296.out
     go_wp2_with (first | ((with_reducible refine gate_callee (f := 47) rfl ?_); refine goesL_ (some 21) rfl rfl Tryd.func47 (by kernel_rfl) rfl #[.agg #[.slice A0_0 l0_0.length c0_0, .slice A0_1 l0_1.length c0_1, .slice A0_2 l0_2.length c0_2, .slice A0_3 l0_3.length c0_3, .slice A0_4 l0_4.length c0_4], .int .i64 a1_0] rfl (by (try simp only [List.map_toArray, List.map_cons, List.map_nil]); first | done | rfl | (simp only [List.length_drop, List.length_take]; rfl)) ?_; (with_reducible refine (arboristref15_Sym.calls _ _ l0_0 _ _ l0_1 _ _ l0_2 _ _ l0_3 _ _ l0_4 a1_0 t297 _ ?side1 ?side2 ?side3 ?side4 ?side5 ?side6 ?side7 ?side8 ?side9 ?side10 A19.out).mono ?_); (case side1 | side3 | side5 | side7 | side9 => exact qY); (case side2 | side4 | side6 | side8 | side10 => exact qO); rintro e w24 ⟨rfl, hb⟩; refine ⟨_, rfl, ?_⟩; replace BK295 := qM (qb (g := gb295) qK hb); replace BK296 := qM (qb (g := gb296) qK hb); replace HB := qM (qP qF hb); (try clear hb); (try clear hb2); (try clear hk); (try clear hi)))
     (go_ret); exact ⟨qE, qF⟩
    ·replace c18 := Bool.eq_false_iff.mpr c18
     subst c18; have hnb27 := NB296_295.out; have hnc27 := NB295_296.out; have hz28 := bx7 BK296.out; (refine iteR ?_ ?_ H <;> clear H <;> intro c25 H)
     ·have c25b0 : decide (0 < a1_0) = true := decide_eq_true c25
      clear c25; replace H := Option.bind_eq_some_iff.mp H; obtain ⟨t298, A260, H⟩ := H; replace H : (some t298) = some r := H; have A26 := qM A260; clear A260; obtain rfl := Option.some.inj H
      go_wp2_with (first | ((with_reducible refine gate_callee (f := 48) rfl ?_); refine goesL_ (some 28) rfl rfl Tryd.func48 (by kernel_rfl) rfl #[.string a1_5] rfl (by (try simp only [List.map_toArray, List.map_cons, List.map_nil]); first | done | rfl | (simp only [List.length_drop, List.length_take]; rfl)) ?_; (with_reducible refine (arboristref01_Quote.calls kj7 a1_5 t298 _ A26.out).mono ?_); rintro e w29 ⟨rfl, hb⟩; refine ⟨_, rfl, ?_⟩; replace BK295 := qM (qb (g := gb295) qK hb); replace BK296 := qM (qb (g := gb296) qK hb); replace HB := qM (qP qF hb); (try clear hb); (try clear hb2); (try clear hk); (try clear hi)))
      (go_ret); exact ⟨qE, qF⟩
     ·have c25b0 : decide (0 < a1_0) = false := decide_eq_false c25
      clear c25; have HC30 := qM H; clear H; (go_upto_if 31 with (fail)); (go_cut [5] (fun v5 wc => ∃ (kq : Nat) (x5_29 : ByteArray), v5 = .string x5_29 ∧ Aside0 (arboristref42_Show.j1 kq x5_29 l0_0 l0_1 l0_2 l0_3 l0_4 a1_0 a1_1 a1_2 a1_3 l1_4 a1_5 l1_6 = some r) ∧ Aside0 (kq ≤ kj7) ∧ Aside0 (wc.heap[gb295]? = some (.cells #[(.slice A0_0 l0_0.length c0_0), (.slice A0_1 l0_1.length c0_1), (.slice A0_2 l0_2.length c0_2), (.slice A0_3 l0_3.length c0_3), (.slice A0_4 l0_4.length c0_4)] 40 (0, 0))) ∧ Aside0 (wc.heap[gb296]? = some (.cells #[.int .i64 a1_0, .int .i64 a1_1, .int .i64 a1_2, .int .i64 a1_3, (.slice A1_4 l1_4.length c1_4), .string a1_5, (.slice A1_6 l1_6.length c1_6)] 26 (0, 0))) ∧ Aside0 (Below w.heap.size w wc)))
      case first =>
       have H := HC30.out; clear HC30; (refine iteE ?_ ?_ H <;> clear H <;> intro c33b0 c33b1 H)
       ·(first | rw [c33b0] | (simp only [i64_w, i32_w]; rw [c33b0]) | skip)
        have H' := qM H; clear H; go_wp2; go_meet
        case rel => exact ⟨_, ((⟨#[40, 33]⟩ : ByteArray)), qV, H', ⟨by have := HJ7.out; first | omega | exact Nat.le_refl _⟩, ⟨qK⟩, ⟨qK⟩, ⟨qF⟩⟩
       ·intro c33
        (first | rw [c33b0] | (simp only [i64_w, i32_w]; rw [c33b0]) | skip); have H' := qM H; clear H; go_wp2; go_meet
        case rel => exact ⟨_, ((⟨#[40]⟩ : ByteArray)), qV, H', ⟨by have := HJ7.out; first | omega | exact Nat.le_refl _⟩, ⟨qK⟩, ⟨qK⟩, ⟨qF⟩⟩
      case rest =>
       clear HC30; (try clear c1); (try clear c2); (try clear p2); (try clear c3); (try clear c3b0); (try clear c3b1); (try clear c4); (try clear c6); (try clear c11); (try clear c13); (try clear c13b0); (try clear c14); (try clear c16); (try clear c18); (try clear c20); (try clear c20b0); (try clear c20b1); (try clear c20b2); (try clear c21); (try clear c25); (try clear c25b0); (try clear c27); (try clear c31); (try clear c33); (try clear c33b0); (try clear c33b1); (try clear hz12); (try clear hz15); (try clear hz22); (try clear hz23); (try clear hz28); (try clear hz28); (try clear hz7); (try clear p2); obtain ⟨kq, x5_29, rfl, HA, HJ29, BK295, BK296, HB⟩ := hcut
       cases kq with
       | zero => exact absurd HA.out (by simp [arboristref42_Show.j1])
       | succ kj29 =>
        have H := HA.out; clear HA; (simp only [arboristref42_Show.j1] at H); replace H := Option.bind_eq_some_iff.mp H; obtain ⟨t299, A340, H⟩ := H; replace H : (if x5_29.size + t299.size ≤ 9223372036854775807 then (arboristref42_Show.l0 kj29 (x5_29 ++ t299) 0 l0_0 l0_1 l0_2 l0_3 l0_4 a1_0 a1_1 a1_2 a1_3 l1_4 a1_5 l1_6) else (none)) = some r := H; have A34 := qM A340; clear A340; refine iteM ?_ H; clear H; (intro c35 H); have c35b0 := eq_true c35; have c35b1 := decide_eq_true c35; (try have c35b2 : (9223372036854775807 < x5_29.size + t299.size) = False := eq_false (Nat.not_lt.2 c35)); have H' := qM H; clear H; have hnb36 := NB295_296.out; have hnc36 := NB296_295.out; have hz37 := bx5 BK295.out; have hz38 := bx7 BK296.out
        go_wp2_with (first | ((with_reducible refine gate_callee (f := 47) rfl ?_); refine goesL_ (some 36) rfl rfl Tryd.func47 (by kernel_rfl) rfl #[.agg #[.slice A0_0 l0_0.length c0_0, .slice A0_1 l0_1.length c0_1, .slice A0_2 l0_2.length c0_2, .slice A0_3 l0_3.length c0_3, .slice A0_4 l0_4.length c0_4], .int .i64 a1_0] rfl (by (try simp only [List.map_toArray, List.map_cons, List.map_nil]); first | done | rfl | (simp only [List.length_drop, List.length_take]; rfl)) ?_; (with_reducible refine (arboristref15_Sym.calls _ _ l0_0 _ _ l0_1 _ _ l0_2 _ _ l0_3 _ _ l0_4 a1_0 t299 _ ?side1 ?side2 ?side3 ?side4 ?side5 ?side6 ?side7 ?side8 ?side9 ?side10 A34.out).mono ?_); (case side1 | side3 | side5 | side7 | side9 => exact qY); (case side2 | side4 | side6 | side8 | side10 => exact qO); rintro e w39 ⟨rfl, hb⟩; refine ⟨_, rfl, ?_⟩; replace BK295 := qM (qb (g := gb295) qK hb); replace BK296 := qM (qb (g := gb296) qK hb); replace HB := qM (qP qF hb); (try clear hb); (try clear hb2); (try clear hk); (try clear hi)))
        go_loopg [5, 6] kj29 (fun kq v5 v6 w' => ∃ (x5_3 : ByteArray) (x6_3 : Int), v5 = .string x5_3 ∧ v6 = .int .i64 x6_3 ∧ Aside0 (arboristref42_Show.l0 kq x5_3 x6_3 l0_0 l0_1 l0_2 l0_3 l0_4 a1_0 a1_1 a1_2 a1_3 l1_4 a1_5 l1_6 = some r) ∧ Aside0 (kq ≤ kj29) ∧ Aside0 (w'.heap[gb295]? = some (.cells #[(.slice A0_0 l0_0.length c0_0), (.slice A0_1 l0_1.length c0_1), (.slice A0_2 l0_2.length c0_2), (.slice A0_3 l0_3.length c0_3), (.slice A0_4 l0_4.length c0_4)] 40 (0, 0))) ∧ Aside0 (w'.heap[gb296]? = some (.cells #[.int .i64 a1_0, .int .i64 a1_1, .int .i64 a1_2, .int .i64 a1_3, (.slice A1_4 l1_4.length c1_4), .string a1_5, (.slice A1_6 l1_6.length c1_6)] 26 (0, 0))) ∧ Aside0 (Below w.heap.size w w'))
        case atStart => exact ⟨(x5_29 ++ t299), (0), qV, qV, H', ⟨Nat.le_refl _⟩, ⟨qK⟩, ⟨qK⟩, ⟨qF⟩⟩
        case round =>
         (clear H'); (try clear c1); (try clear c2); (try clear p2); (try clear c3); (try clear c3b0); (try clear c3b1); (try clear c4); (try clear c6); (try clear c11); (try clear c13); (try clear c13b0); (try clear c14); (try clear c16); (try clear c18); (try clear c20); (try clear c20b0); (try clear c20b1); (try clear c20b2); (try clear c21); (try clear c25); (try clear c25b0); (try clear c27); (try clear c31); (try clear c33); (try clear c33b0); (try clear c33b1); (try clear c35); (try clear c35b0); (try clear c35b1); (try clear c35b2); (try clear c36); (try clear hz12); (try clear hz15); (try clear hz22); (try clear hz23); (try clear hz28); (try clear hz28); (try clear hz37); (try clear hz38); (try clear hz7); (try clear p2); obtain ⟨x5_3, x6_3, rfl, rfl, HA, HK3, BK295, BK296, HB⟩ := hrel
         cases gk with
         | zero => exact absurd HA.out (by simp [arboristref42_Show.l0])
         | succ k3 =>
          have H := HA.out; clear HA; (simp only [arboristref42_Show.l0] at H); have hnb45 := NB296_295.out; have hnc45 := NB295_296.out; have hz46 := bx7 BK296.out; (refine iteD ?_ ?_ H <;> clear H <;> intro c40b0 H)
          ·refine iteM ?_ H
           clear H; (intro c41 H); have c41b0 := eq_true c41; have c41b1 := decide_eq_true c41; (try have c41b2 : (9223372036854775807 < x5_3.size + 1) = False := eq_false (Nat.not_lt.2 c41)); refine iteN ?_ H; clear H; (intro c42b0 H); replace H := Option.bind_eq_some_iff.mp H; obtain ⟨t301, A430, H⟩ := H; replace H : (if (x5_3 ++ (⟨#[32]⟩ : ByteArray)).size + t301.size ≤ 9223372036854775807 then (arboristref42_Show.l0 k3 ((x5_3 ++ (⟨#[32]⟩ : ByteArray)) ++ t301) (wrap64 (x6_3 + 1)) l0_0 l0_1 l0_2 l0_3 l0_4 a1_0 a1_1 a1_2 a1_3 l1_4 a1_5 l1_6) else (none)) = some r := H; have A43 := qM A430; clear A430; refine iteM ?_ H; clear H; (intro c44 H); have c44b0 := eq_true c44; have c44b1 := decide_eq_true c44; (try have c44b2 : (9223372036854775807 < (x5_3 ++ (⟨#[32]⟩ : ByteArray)).size + t301.size) = False := eq_false (Nat.not_lt.2 c44)); (try have c44b3 : (9223372036854775807 < x5_3.size + 1 + t301.size) = False := eq_false (Nat.not_lt.2 (by have h_ := c44; simp only [ByteArray.size_append] at h_; exact h_))); have H' := qM H; clear H; (try go_wp2); replace BK295 := qM (qd BK295.out); replace BK296 := qM (qd BK296.out); replace HB := qM (qD HB.out); have p300 : 0 ≤ (x6_3 : Int) := qo qX; have q300 : x6_3 < (l1_6.length : Int) := qo qX; obtain ⟨ad300, A300_4, c300_4, A300_6, c300_6, e300, hx300_0, hx300_1, hx300_2, hx300_3, hx300_4, hx300_5, hx300_6, hl300_4, hi300_4, hl300_6, hi300_6⟩ := at_T26 HR1_6.out x6_3 p300 q300; have hw300_6 := hx300_6; have hw300_5 := hx300_5; have hw300_4 := hx300_4; have hw300_3 := hx300_3; have hw300_2 := hx300_2; have hw300_1 := hx300_1; have hw300_0 := hx300_0
           cases e300
           replace hx300_0 := qv HB.out hx300_0; replace hx300_1 := qv HB.out hx300_1; replace hx300_2 := qv HB.out hx300_2; replace hx300_3 := qv HB.out hx300_3; replace hx300_4 := qv HB.out hx300_4; replace hx300_5 := qv HB.out hx300_5; replace hx300_6 := qv HB.out hx300_6; have HR300_4 := qM hi300_4; have HC300_4 := qM hl300_4; clear hi300_4 hl300_4; have HR300_6 := qM hi300_6; have HC300_6 := qM hl300_6; clear hi300_6 hl300_6; replace p300 := eq_true p300; replace q300 := eq_true q300
           refine start_ (n := 11) (S := fun w' => w'.cell? ⟨gb295, 0, none⟩ = some (.slice A0_0 l0_0.length c0_0) ∧ w'.cell? ⟨gb295, 1, none⟩ = some (.slice A0_1 l0_1.length c0_1) ∧ w'.cell? ⟨gb295, 2, none⟩ = some (.slice A0_2 l0_2.length c0_2) ∧ w'.cell? ⟨gb295, 3, none⟩ = some (.slice A0_3 l0_3.length c0_3) ∧ w'.cell? ⟨gb295, 4, none⟩ = some (.slice A0_4 l0_4.length c0_4) ∧ w'.cell? ⟨gb296, 0, none⟩ = some (.int .i64 a1_0) ∧ w'.cell? ⟨gb296, 1, none⟩ = some (.int .i64 a1_1) ∧ w'.cell? ⟨gb296, 2, none⟩ = some (.int .i64 a1_2) ∧ w'.cell? ⟨gb296, 3, none⟩ = some (.int .i64 a1_3) ∧ w'.cell? ⟨gb296, 4, none⟩ = some (.slice A1_4 l1_4.length c1_4) ∧ w'.cell? ⟨gb296, 5, none⟩ = some (.string a1_5) ∧ w'.cell? ⟨gb296, 6, none⟩ = some (.slice (some ad300) l1_6.length c1_6) ∧ w'.cell? (ad300.add ((x6_3).toNat * 7)) = some (.int .i64 ((rd_T26 l1_6 x6_3).f0)) ∧ w'.cell? ⟨(ad300.add ((x6_3).toNat * 7)).block, (ad300.add ((x6_3).toNat * 7)).off + 1, none⟩ = some (.int .i64 ((rd_T26 l1_6 x6_3).f1)) ∧ w'.cell? ⟨(ad300.add ((x6_3).toNat * 7)).block, (ad300.add ((x6_3).toNat * 7)).off + 2, none⟩ = some (.int .i64 ((rd_T26 l1_6 x6_3).f2)) ∧ w'.cell? ⟨(ad300.add ((x6_3).toNat * 7)).block, (ad300.add ((x6_3).toNat * 7)).off + 3, none⟩ = some (.int .i64 ((rd_T26 l1_6 x6_3).f3)) ∧ w'.cell? ⟨(ad300.add ((x6_3).toNat * 7)).block, (ad300.add ((x6_3).toNat * 7)).off + 4, none⟩ = some (.slice A300_4 ((rd_T26 l1_6 x6_3).f4).length c300_4) ∧ w'.cell? ⟨(ad300.add ((x6_3).toNat * 7)).block, (ad300.add ((x6_3).toNat * 7)).off + 5, none⟩ = some (.string ((rd_T26 l1_6 x6_3).f5)) ∧ w'.cell? ⟨(ad300.add ((x6_3).toNat * 7)).block, (ad300.add ((x6_3).toNat * 7)).off + 6, none⟩ = some (.slice A300_6 ((rd_T26 l1_6 x6_3).f6).length c300_6)) (ds := []) (Array.replicate 11 false) (by kernel_rfl) rfl rfl (by and_intros <;> first | exact qW | exact qv HB.out (by assumption)) (fun hHeld => ?_); refine with_tabW arboristref42_Show.tab14 arboristref42_Show.bits14 (fun HT_ HW_ => ?_)
           (generalize wr.drew = w47 at BK295 BK296 HB HR300_4 HR300_6 hx300_0 hx300_1 hx300_2 hx300_3 hx300_4 hx300_5 hx300_6 hHeld ⊢); refine Ord.enter 11 0 [.p 0 45, .p 1 46, .p 3 48, .p 5 50, .t 2 47, .t 4 49, .p 6 51, .t 7 52] (by kernel_rfl) ?_; (repeat ((first | (show Ord (.p _ _ :: _) _; refine Ord.pure (v := ?_) (a' := ?_) HT_ ?_ ?_ ?_; rotate_left; (intro w'; go_simp; with_reducible rfl)) | (show Ord (.t _ _ :: _) _; refine Ord.take (v := ?_) (a' := ?_) HT_ HW_ ?_ hHeld ?_ ?_; rotate_left; (intro w' hSw; (try dsimp only at hSw); go_simp; with_reducible rfl))); rotate_left; (simp only [Act.put, List.setIfInBounds_toArray, List.set_cons_zero, List.set_cons_succ, i64_w, i32_w]; rfl))); refine Ord.done (fl 11 255) (by kernel_rfl) ?_; refine one_ (i := 8) (N := some 53) (fl 11 511) rfl rfl (one_of HT_.out (by kernel_rfl)) (by decide) (fun K hK => ?_); refine goes_ Tryd.func27 (by kernel_rfl) rfl #[.agg #[.slice A0_0 l0_0.length c0_0, .slice A0_1 l0_1.length c0_1, .slice A0_2 l0_2.length c0_2, .slice A0_3 l0_3.length c0_3, .slice A0_4 l0_4.length c0_4], .agg #[.int .i64 ((rd_T26 l1_6 x6_3).f0), .int .i64 ((rd_T26 l1_6 x6_3).f1), .int .i64 ((rd_T26 l1_6 x6_3).f2), .int .i64 ((rd_T26 l1_6 x6_3).f3), .slice A300_4 ((rd_T26 l1_6 x6_3).f4).length c300_4, .string ((rd_T26 l1_6 x6_3).f5), .slice A300_6 ((rd_T26 l1_6 x6_3).f6).length c300_6]] (by rfl) rfl rfl (by (try simp only [List.map_toArray, List.map_cons, List.map_nil]); first | done | rfl | (simp only [List.length_drop, List.length_take]; rfl)) ?_; (with_reducible refine (ih k3 (by have := HJ7.out; have := HJ29.out; have := HK3.out; omega) _ _ l0_0 _ _ l0_1 _ _ l0_2 _ _ l0_3 _ _ l0_4 ((rd_T26 l1_6 x6_3).f0) ((rd_T26 l1_6 x6_3).f1) ((rd_T26 l1_6 x6_3).f2) ((rd_T26 l1_6 x6_3).f3) _ _ ((rd_T26 l1_6 x6_3).f4) ((rd_T26 l1_6 x6_3).f5) _ _ ((rd_T26 l1_6 x6_3).f6) t301 _ ?side1 ?side2 ?side3 ?side4 ?side5 ?side6 ?side7 ?side8 ?side9 ?side10 ?side11 ?side12 ?side13 ?side14 A43.out).mono ?_); (case side1 | side3 => exact qY); (case side2 | side4 => exact qO)
           (case side5 | side7 | side9 | side11 | side13 => exact qY); (case side6 | side8 | side10 | side12 | side14 => exact qO); (rintro e w48 ⟨rfl, hb⟩); refine ⟨_, rfl, ?_⟩; replace BK295 := qM (qb (g := gb295) qK hb); replace BK296 := qM (qb (g := gb296) qK hb); replace HB := qM (qP qF hb); (try clear hb); (try clear hb2); (try clear hk); (try clear hi)
           refine hK.out _ _ (by and_intros <;> first | exact qW | exact qv HB.out (by assumption)) (fun hHeld => ?_)
           clear hK K; refine norm_ (a' := ?_) ?_ ?_; rotate_left; (show Act.put _ (some 53) _ = _; simp only [Act.put, List.setIfInBounds_toArray, List.set_cons_zero, List.set_cons_succ, i64_w, i32_w]; rfl); refine pure_ (i := 9) (N := some 54) (v := ?_) (a' := ?_) (fl 11 1023) rfl rfl (any_of HT_.out (by kernel_rfl)) (fun _ _ _ h => h) (Or.inl ⟨by rfl, ?_⟩) ?_ ?_; rotate_left; (intro w'; go_simp; with_reducible rfl); rotate_left; (simp only [Act.put, List.setIfInBounds_toArray, List.set_cons_zero, List.set_cons_succ, i64_w, i32_w]; rfl); refine pure_ (i := 10) (N := some 5) (v := ?_) (a' := ?_) (fl 11 2047) rfl rfl (any_of HT_.out (by kernel_rfl)) (fun _ _ _ h => h) (Or.inl ⟨by rfl, ?_⟩) ?_ ?_; rotate_left; (intro w'; go_simp; with_reducible rfl); rotate_left; (simp only [Act.put, List.setIfInBounds_toArray, List.set_cons_zero, List.set_cons_succ, i64_w, i32_w]; rfl); refine done_ (done_of HT_.out (by kernel_rfl)) ?_; (try go_wp2); (go_roundg k3)
           case measure => have := HJ7.out; have := HJ29.out; have := HK3.out; omega
           case rel => exact ⟨((x5_3 ++ (⟨#[32]⟩ : ByteArray)) ++ t301), (wrap64 (x6_3 + 1)), qV, qV, H', ⟨by have := HJ7.out; have := HJ29.out; have := HK3.out; omega⟩, ⟨qK⟩, ⟨qK⟩, ⟨qF⟩⟩
          ·refine iteM ?_ H
           clear H; (intro c49 H); have c49b0 := eq_true c49; have c49b1 := decide_eq_true c49; (try have c49b2 : (9223372036854775807 < x5_3.size + 1) = False := eq_false (Nat.not_lt.2 c49)); obtain rfl := Option.some.inj H; go_wp2; (go_ret); exact ⟨qE, qF⟩
def arboristref42_lead.l0 : Nat → List (S46) → Int → List ByteArray → List ByteArray → List Int → List (S58) → List (S61) → Option (Bool)
 | 0, _, _, _, _, _, _, _ => none
 | k + 1, x1, x5, x244000, x244001, x244002, x244003, x244004 => if x5 < (x1.length : Int) then (if 0 ≤ x5 then (if ((rd_T46 x1 x5).f0) = 1 then (if ((rd_T46 x1 x5).f0) = 2 then (if ((rd_T46 x1 x5).f0) = 3 then (if ((rd_T46 x1 x5).f1) ≥ 2 then (if ((rd_T46 x1 x5).f2).toList = ([] : List UInt8) then (some false) else (if (((rd_T46 x1 x5).f1) ≥ 0) then (arboristref42_lead.l0 k x1 (wrap64 (x5 + 1)) x244000 x244001 x244002 x244003 x244004) else (if (((rd_T46 x1 x5).f1) = (-1)) then (arboristref42_lead.l0 k x1 (wrap64 (x5 + 1)) x244000 x244001 x244002 x244003 x244004) else (if (((rd_T46 x1 x5).f1) < (x244000.length : Int)) then (arboristref42_lead.l0 k x1 (wrap64 (x5 + 1)) x244000 x244001 x244002 x244003 x244004) else (some false))))) else (if ((rd_T46 x1 x5).f2).toList = ([] : List UInt8) then (some false) else (if (((rd_T46 x1 x5).f1) ≥ 0) then (arboristref42_lead.l0 k x1 (wrap64 (x5 + 1)) x244000 x244001 x244002 x244003 x244004) else (if (((rd_T46 x1 x5).f1) = (-1)) then (arboristref42_lead.l0 k x1 (wrap64 (x5 + 1)) x244000 x244001 x244002 x244003 x244004) else (some false))))) else (if ((rd_T46 x1 x5).f2).toList = ([] : List UInt8) then (some false) else (if (((rd_T46 x1 x5).f1) ≥ 0) then (arboristref42_lead.l0 k x1 (wrap64 (x5 + 1)) x244000 x244001 x244002 x244003 x244004) else (if (((rd_T46 x1 x5).f1) = (-1)) then (arboristref42_lead.l0 k x1 (wrap64 (x5 + 1)) x244000 x244001 x244002 x244003 x244004) else (some false))))) else (if ((rd_T46 x1 x5).f0) = 3 then (if ((rd_T46 x1 x5).f1) ≥ 2 then (if ((rd_T46 x1 x5).f2).toList = ([] : List UInt8) then (some false) else (if (((rd_T46 x1 x5).f1) ≥ 0) then (arboristref42_lead.l0 k x1 (wrap64 (x5 + 1)) x244000 x244001 x244002 x244003 x244004) else (if (((rd_T46 x1 x5).f1) < (x244000.length : Int)) then (arboristref42_lead.l0 k x1 (wrap64 (x5 + 1)) x244000 x244001 x244002 x244003 x244004) else (some false)))) else (if ((rd_T46 x1 x5).f2).toList = ([] : List UInt8) then (some false) else (if (((rd_T46 x1 x5).f1) ≥ 0) then (arboristref42_lead.l0 k x1 (wrap64 (x5 + 1)) x244000 x244001 x244002 x244003 x244004) else (some false)))) else (if ((rd_T46 x1 x5).f2).toList = ([] : List UInt8) then (some false) else (if (((rd_T46 x1 x5).f1) ≥ 0) then (arboristref42_lead.l0 k x1 (wrap64 (x5 + 1)) x244000 x244001 x244002 x244003 x244004) else (some false))))) else (if ((rd_T46 x1 x5).f0) = 2 then (if ((rd_T46 x1 x5).f0) = 3 then (if ((rd_T46 x1 x5).f1) ≥ 2 then (if ((rd_T46 x1 x5).f2).toList = ([] : List UInt8) then (some false) else (if (((rd_T46 x1 x5).f1) = (-1)) then (arboristref42_lead.l0 k x1 (wrap64 (x5 + 1)) x244000 x244001 x244002 x244003 x244004) else (if (((rd_T46 x1 x5).f1) < (x244000.length : Int)) then (arboristref42_lead.l0 k x1 (wrap64 (x5 + 1)) x244000 x244001 x244002 x244003 x244004) else (some false)))) else (if ((rd_T46 x1 x5).f2).toList = ([] : List UInt8) then (some false) else (if (((rd_T46 x1 x5).f1) = (-1)) then (arboristref42_lead.l0 k x1 (wrap64 (x5 + 1)) x244000 x244001 x244002 x244003 x244004) else (some false)))) else (if ((rd_T46 x1 x5).f2).toList = ([] : List UInt8) then (some false) else (if (((rd_T46 x1 x5).f1) = (-1)) then (arboristref42_lead.l0 k x1 (wrap64 (x5 + 1)) x244000 x244001 x244002 x244003 x244004) else (some false)))) else (if ((rd_T46 x1 x5).f0) = 3 then (if ((rd_T46 x1 x5).f1) ≥ 2 then (if ((rd_T46 x1 x5).f2).toList = ([] : List UInt8) then (some false) else (if (((rd_T46 x1 x5).f1) < (x244000.length : Int)) then (arboristref42_lead.l0 k x1 (wrap64 (x5 + 1)) x244000 x244001 x244002 x244003 x244004) else (some false))) else (if ((rd_T46 x1 x5).f2).toList = ([] : List UInt8) then (some false) else (some false))) else (if ((rd_T46 x1 x5).f2).toList = ([] : List UInt8) then (some false) else (some false))))) else (none)) else (some true)
def arboristref42_lead.f (k : Nat) (l0_0 : List ByteArray) (l0_1 : List ByteArray) (l0_2 : List Int) (l0_3 : List (S58)) (l0_4 : List (S61)) (l1 : List (S46)) : Option (Bool) := arboristref42_lead.l0 k l1 0 l0_0 l0_1 l0_2 l0_3 l0_4
theorem arboristref42_lead.calls (k : Nat) (A0_0 : Option Addr) (c0_0 : Nat) (l0_0 : List ByteArray) (A0_1 : Option Addr) (c0_1 : Nat) (l0_1 : List ByteArray) (A0_2 : Option Addr) (c0_2 : Nat) (l0_2 : List Int) (A0_3 : Option Addr) (c0_3 : Nat) (l0_3 : List (S58)) (A0_4 : Option Addr) (c0_4 : Nat) (l0_4 : List (S61)) (A1 : Option Addr) (c1 : Nat) (l1 : List (S46)) (r : Bool) (w : World) (hr0_0 : Kd.C Kd.string w A0_0 l0_0.length l0_0) (hc0_0 : l0_0.length ≤ c0_0) (hr0_1 : Kd.C Kd.string w A0_1 l0_1.length l0_1) (hc0_1 : l0_1.length ≤ c0_1) (hr0_2 : Kd.C (Kd.int .i64) w A0_2 l0_2.length l0_2) (hc0_2 : l0_2.length ≤ c0_2) (hr0_3 : Kd.C k58 w A0_3 l0_3.length l0_3) (hc0_3 : l0_3.length ≤ c0_3) (hr0_4 : Kd.C k61 w A0_4 l0_4.length l0_4) (hc0_4 : l0_4.length ≤ c0_4) (hr1 : Kd.C k46 w A1 l1.length l1) (hc1 : l1.length ≤ c1) (h : arboristref42_lead.f k l0_0 l0_1 l0_2 l0_3 l0_4 l1 = some r) :
  Calls Tryd.prog 63 #[.agg #[.slice A0_0 l0_0.length c0_0, .slice A0_1 l0_1.length c0_1, .slice A0_2 l0_2.length c0_2, .slice A0_3 l0_3.length c0_3, .slice A0_4 l0_4.length c0_4], .slice A1 l1.length c1] w fun e w' => e = .returned (.bool r) ∧ Below w.heap.size w w' := by
 have hu40 := Tryd.underlying40; have hu46 := Tryd.underlying46; have HR0_0 := qM hr0_0; have HC0_0 := qM hc0_0; clear hr0_0 hc0_0; have HR0_1 := qM hr0_1; have HC0_1 := qM hc0_1; clear hr0_1 hc0_1; have HR0_2 := qM hr0_2; have HC0_2 := qM hc0_2; clear hr0_2 hc0_2; have HR0_3 := qM hr0_3; have HC0_3 := qM hc0_3; clear hr0_3 hc0_3; have HR0_4 := qM hr0_4; have HC0_4 := qM hc0_4; clear hr0_4 hc0_4; have HR1 := qM hr1; have HC1 := qM hc1; clear hr1 hc1; have HB := qM (Below.refl w.heap.size w); have H : (arboristref42_lead.l0 k l1 0 l0_0 l0_1 l0_2 l0_3 l0_4) = some r := h; clear h; have H' := qM H; clear H; (go_enter Tryd.func63, Tryd.ntmps63)
 go_wp2_with (first | ((with_reducible refine gate_dst (N := 2) rfl ?_); (try (refine gate_guard (by rfl) ?_; dsimp only)); refine box_event ?hg (N := 2) ?hd (cs := #[.slice A0_0 l0_0.length c0_0, .slice A0_1 l0_1.length c0_1, .slice A0_2 l0_2.length c0_2, .slice A0_3 l0_3.length c0_3, .slice A0_4 l0_4.length c0_4]) (t := 40) ?hr ?_; (case hd | hg => rfl); (case hr => first | (go_simp; done) | (go_simp; rfl)); intro gb243 hg w3 hbox hb; have BK243 := qM (hbox); have GW243 := qM (qG hg); have GE243 := GW243; replace HB := qM (qP qF hb); clear hb hbox hg))
 go_loopg [5] k (fun kq v5 w' => ∃ (x5_1 : Int), v5 = .int .i64 x5_1 ∧ Aside0 (arboristref42_lead.l0 kq l1 x5_1 l0_0 l0_1 l0_2 l0_3 l0_4 = some r) ∧ Aside0 (kq ≤ k) ∧ Aside0 (w'.heap[gb243]? = some (.cells #[(.slice A0_0 l0_0.length c0_0), (.slice A0_1 l0_1.length c0_1), (.slice A0_2 l0_2.length c0_2), (.slice A0_3 l0_3.length c0_3), (.slice A0_4 l0_4.length c0_4)] 40 (0, 0))) ∧ Aside0 (Below w.heap.size w w'))
 case atStart => exact ⟨(0), qV, H', ⟨Nat.le_refl _⟩, ⟨qK⟩, ⟨qF⟩⟩
 case round =>
  (clear H'); (try clear c1); (try clear p2); obtain ⟨x5_1, rfl, HA, HK1, BK243, HB⟩ := hrel
  cases gk with
  | zero => exact absurd HA.out (by simp [arboristref42_lead.l0])
  | succ k1 =>
   have H := HA.out; clear HA; (simp only [arboristref42_lead.l0] at H); (refine iteD ?_ ?_ H <;> clear H <;> intro c4b0 H)
   ·refine iteN ?_ H
    clear H; (intro c5b0 H); have p244 : 0 ≤ (x5_1 : Int) := qo qX; have q244 : x5_1 < (l1.length : Int) := qo qX; obtain ⟨ad244, e244, hx244_0, hx244_1, hx244_2⟩ := at_T46 HR1.out x5_1 p244 q244
    cases e244
    replace hx244_0 := qv HB.out hx244_0; replace hx244_1 := qv HB.out hx244_1; replace hx244_2 := qv HB.out hx244_2; replace p244 := eq_true p244; replace q244 := eq_true q244; (refine iteE ?_ ?_ H <;> clear H <;> intro c6b0 c6b1 H)
    ·refine iteE ?_ ?_ H <;> clear H <;> intro c7b0 c7b1 H
     ·refine iteE ?_ ?_ H <;> clear H <;> intro c8b0 c8b1 H
      ·refine iteR ?_ ?_ H <;> clear H <;> intro c9 H
       ·have c9b0 : decide (2 ≤ ((rd_T46 l1 x5_1).f1)) = true := decide_eq_true c9
        clear c9; have HH_ := qM H; clear H
        go_upto_region 5 with (first | ((with_reducible refine gate_dst (N := 6) rfl ?_); (try (refine gate_guard (by rfl) ?_; dsimp only)); refine box_event ?hg (N := 6) ?hd (cs := #[.int .i64 0, .int .i64 0, .string (⟨#[]⟩ : ByteArray)]) (t := 46) ?hr ?_; (case hd | hg => rfl); (case hr => first | (go_simp; done) | (go_simp; rfl)); intro gb245 hg w11 hbox hb; have BK245 := qM (hbox); have GW245 := qM (qG hg); have GE245 := GW245; have NB243_245 := qM ((by rw [hg]; exact Nat.ne_of_lt (ql (g := gb243) qK) : gb243 ≠ gb245)); have NB245_243 := qM (Ne.symm NB243_245.out); replace BK243 := qM (qb (g := gb243) qK hb); replace HB := qM (qP qF hb); clear hb hbox hg; have hnb12 := NB245_243.out; have hnc12 := NB243_245.out; have hz13 := bx3 BK245.out; have hz14 := bx5 BK243.out))
        have H := HH_.out; clear HH_; (refine iteE ?_ ?_ H <;> clear H <;> intro c10b0 c10b1 H)
        ·obtain rfl := Option.some.inj H
         go_wp2; (go_ret); exact ⟨qE, qF⟩
        ·intro c10
         refine iteR ?_ ?_ H <;> clear H <;> intro c15 H
         ·have c15b0 : decide (0 ≤ ((rd_T46 l1 x5_1).f1)) = true := decide_eq_true c15
          clear c15; have H' := qM H; clear H; go_wp2; (go_roundg k1)
          case measure => have := HK1.out; omega
          case rel => exact ⟨(wrap64 (x5_1 + 1)), qV, H', ⟨by have := HK1.out; omega⟩, ⟨qK⟩, ⟨qF⟩⟩
         ·have c15b0 : decide (0 ≤ ((rd_T46 l1 x5_1).f1)) = false := decide_eq_false c15
          clear c15; (refine iteR ?_ ?_ H <;> clear H <;> intro c20 H)
          ·have c20b0 : (((rd_T46 l1 x5_1).f1) == (-1)) = true := beq_iff_eq.mpr c20
           have c20b1 : (((rd_T46 l1 x5_1).f1) != (-1)) = false := bne_eq_false_iff_eq.mpr c20; clear c20; have H' := qM H; clear H; go_wp2; (go_roundg k1)
           case measure => have := HK1.out; omega
           case rel => exact ⟨(wrap64 (x5_1 + 1)), qV, H', ⟨by have := HK1.out; omega⟩, ⟨qK⟩, ⟨qF⟩⟩
          ·have c20b0 : (((rd_T46 l1 x5_1).f1) == (-1)) = false := beq_eq_false_iff_ne.mpr c20
           have c20b1 : (((rd_T46 l1 x5_1).f1) != (-1)) = true := bne_iff_ne.mpr c20; (refine iteR ?_ ?_ H <;> clear H <;> intro c25 H)
           ·have c25b0 : decide (((rd_T46 l1 x5_1).f1) < (l0_0.length : Int)) = true := decide_eq_true c25
            clear c25; have H' := qM H; clear H; go_wp2; (go_roundg k1)
            case measure => have := HK1.out; omega
            case rel => exact ⟨(wrap64 (x5_1 + 1)), qV, H', ⟨by have := HK1.out; omega⟩, ⟨qK⟩, ⟨qF⟩⟩
           ·have c25b0 : decide (((rd_T46 l1 x5_1).f1) < (l0_0.length : Int)) = false := decide_eq_false c25
            clear c25; obtain rfl := Option.some.inj H; go_wp2; (go_ret); exact ⟨qE, qF⟩
       ·have c9b0 : decide (2 ≤ ((rd_T46 l1 x5_1).f1)) = false := decide_eq_false c9
        clear c9; have HH_ := qM H; clear H
        go_upto_region 5 with (first | ((with_reducible refine gate_dst (N := 6) rfl ?_); (try (refine gate_guard (by rfl) ?_; dsimp only)); refine box_event ?hg (N := 6) ?hd (cs := #[.int .i64 0, .int .i64 0, .string (⟨#[]⟩ : ByteArray)]) (t := 46) ?hr ?_; (case hd | hg => rfl); (case hr => first | (go_simp; done) | (go_simp; rfl)); intro gb245 hg w35 hbox hb; have BK245 := qM (hbox); have GW245 := qM (qG hg); have GE245 := GW245; have NB243_245 := qM ((by rw [hg]; exact Nat.ne_of_lt (ql (g := gb243) qK) : gb243 ≠ gb245)); have NB245_243 := qM (Ne.symm NB243_245.out); replace BK243 := qM (qb (g := gb243) qK hb); replace HB := qM (qP qF hb); clear hb hbox hg; have hnb36 := NB245_243.out; have hnc36 := NB243_245.out; have hz37 := bx3 BK245.out))
        have H := HH_.out; clear HH_; (refine iteE ?_ ?_ H <;> clear H <;> intro c34b0 c34b1 H)
        ·obtain rfl := Option.some.inj H
         go_wp2; (go_ret); exact ⟨qE, qF⟩
        ·intro c34
         refine iteR ?_ ?_ H <;> clear H <;> intro c38 H
         ·have c38b0 : decide (0 ≤ ((rd_T46 l1 x5_1).f1)) = true := decide_eq_true c38
          clear c38; have H' := qM H; clear H; go_wp2; (go_roundg k1)
          case measure => have := HK1.out; omega
          case rel => exact ⟨(wrap64 (x5_1 + 1)), qV, H', ⟨by have := HK1.out; omega⟩, ⟨qK⟩, ⟨qF⟩⟩
         ·have c38b0 : decide (0 ≤ ((rd_T46 l1 x5_1).f1)) = false := decide_eq_false c38
          clear c38; (refine iteR ?_ ?_ H <;> clear H <;> intro c42 H)
          ·have c42b0 : (((rd_T46 l1 x5_1).f1) == (-1)) = true := beq_iff_eq.mpr c42
           have c42b1 : (((rd_T46 l1 x5_1).f1) != (-1)) = false := bne_eq_false_iff_eq.mpr c42; clear c42; have H' := qM H; clear H; go_wp2; (go_roundg k1)
           case measure => have := HK1.out; omega
           case rel => exact ⟨(wrap64 (x5_1 + 1)), qV, H', ⟨by have := HK1.out; omega⟩, ⟨qK⟩, ⟨qF⟩⟩
          ·have c42b0 : (((rd_T46 l1 x5_1).f1) == (-1)) = false := beq_eq_false_iff_ne.mpr c42
           have c42b1 : (((rd_T46 l1 x5_1).f1) != (-1)) = true := bne_iff_ne.mpr c42; obtain rfl := Option.some.inj H; go_wp2; (go_ret); exact ⟨qE, qF⟩
      ·intro c8
       have HH_ := qM H; clear H
       go_upto_region 5 with (first | ((with_reducible refine gate_dst (N := 6) rfl ?_); (try (refine gate_guard (by rfl) ?_; dsimp only)); refine box_event ?hg (N := 6) ?hd (cs := #[.int .i64 0, .int .i64 0, .string (⟨#[]⟩ : ByteArray)]) (t := 46) ?hr ?_; (case hd | hg => rfl); (case hr => first | (go_simp; done) | (go_simp; rfl)); intro gb245 hg w50 hbox hb; have BK245 := qM (hbox); have GW245 := qM (qG hg); have GE245 := GW245; have NB243_245 := qM ((by rw [hg]; exact Nat.ne_of_lt (ql (g := gb243) qK) : gb243 ≠ gb245)); have NB245_243 := qM (Ne.symm NB243_245.out); replace BK243 := qM (qb (g := gb243) qK hb); replace HB := qM (qP qF hb); clear hb hbox hg; have hnb51 := NB245_243.out; have hnc51 := NB243_245.out; have hz52 := bx3 BK245.out))
       have H := HH_.out; clear HH_; (refine iteE ?_ ?_ H <;> clear H <;> intro c49b0 c49b1 H)
       ·obtain rfl := Option.some.inj H
        go_wp2; (go_ret); exact ⟨qE, qF⟩
       ·intro c49
        refine iteR ?_ ?_ H <;> clear H <;> intro c53 H
        ·have c53b0 : decide (0 ≤ ((rd_T46 l1 x5_1).f1)) = true := decide_eq_true c53
         clear c53; have H' := qM H; clear H; go_wp2; (go_roundg k1)
         case measure => have := HK1.out; omega
         case rel => exact ⟨(wrap64 (x5_1 + 1)), qV, H', ⟨by have := HK1.out; omega⟩, ⟨qK⟩, ⟨qF⟩⟩
        ·have c53b0 : decide (0 ≤ ((rd_T46 l1 x5_1).f1)) = false := decide_eq_false c53
         clear c53; (refine iteR ?_ ?_ H <;> clear H <;> intro c57 H)
         ·have c57b0 : (((rd_T46 l1 x5_1).f1) == (-1)) = true := beq_iff_eq.mpr c57
          have c57b1 : (((rd_T46 l1 x5_1).f1) != (-1)) = false := bne_eq_false_iff_eq.mpr c57; clear c57; have H' := qM H; clear H; go_wp2; (go_roundg k1)
          case measure => have := HK1.out; omega
          case rel => exact ⟨(wrap64 (x5_1 + 1)), qV, H', ⟨by have := HK1.out; omega⟩, ⟨qK⟩, ⟨qF⟩⟩
         ·have c57b0 : (((rd_T46 l1 x5_1).f1) == (-1)) = false := beq_eq_false_iff_ne.mpr c57
          have c57b1 : (((rd_T46 l1 x5_1).f1) != (-1)) = true := bne_iff_ne.mpr c57; obtain rfl := Option.some.inj H; go_wp2; (go_ret); exact ⟨qE, qF⟩
     ·intro c7
      refine iteE ?_ ?_ H <;> clear H <;> intro c64b0 c64b1 H
      ·refine iteR ?_ ?_ H <;> clear H <;> intro c65 H
       ·have c65b0 : decide (2 ≤ ((rd_T46 l1 x5_1).f1)) = true := decide_eq_true c65
        clear c65; have HH_ := qM H; clear H
        go_upto_region 5 with (first | ((with_reducible refine gate_dst (N := 6) rfl ?_); (try (refine gate_guard (by rfl) ?_; dsimp only)); refine box_event ?hg (N := 6) ?hd (cs := #[.int .i64 0, .int .i64 0, .string (⟨#[]⟩ : ByteArray)]) (t := 46) ?hr ?_; (case hd | hg => rfl); (case hr => first | (go_simp; done) | (go_simp; rfl)); intro gb245 hg w67 hbox hb; have BK245 := qM (hbox); have GW245 := qM (qG hg); have GE245 := GW245; have NB243_245 := qM ((by rw [hg]; exact Nat.ne_of_lt (ql (g := gb243) qK) : gb243 ≠ gb245)); have NB245_243 := qM (Ne.symm NB243_245.out); replace BK243 := qM (qb (g := gb243) qK hb); replace HB := qM (qP qF hb); clear hb hbox hg; have hnb68 := NB245_243.out; have hnc68 := NB243_245.out; have hz69 := bx3 BK245.out; have hz70 := bx5 BK243.out))
        have H := HH_.out; clear HH_; (refine iteE ?_ ?_ H <;> clear H <;> intro c66b0 c66b1 H)
        ·obtain rfl := Option.some.inj H
         go_wp2; (go_ret); exact ⟨qE, qF⟩
        ·intro c66
         refine iteR ?_ ?_ H <;> clear H <;> intro c71 H
         ·have c71b0 : decide (0 ≤ ((rd_T46 l1 x5_1).f1)) = true := decide_eq_true c71
          clear c71; have H' := qM H; clear H; go_wp2; (go_roundg k1)
          case measure => have := HK1.out; omega
          case rel => exact ⟨(wrap64 (x5_1 + 1)), qV, H', ⟨by have := HK1.out; omega⟩, ⟨qK⟩, ⟨qF⟩⟩
         ·have c71b0 : decide (0 ≤ ((rd_T46 l1 x5_1).f1)) = false := decide_eq_false c71
          clear c71; (refine iteR ?_ ?_ H <;> clear H <;> intro c76 H)
          ·have c76b0 : decide (((rd_T46 l1 x5_1).f1) < (l0_0.length : Int)) = true := decide_eq_true c76
           clear c76; have H' := qM H; clear H; go_wp2; (go_roundg k1)
           case measure => have := HK1.out; omega
           case rel => exact ⟨(wrap64 (x5_1 + 1)), qV, H', ⟨by have := HK1.out; omega⟩, ⟨qK⟩, ⟨qF⟩⟩
          ·have c76b0 : decide (((rd_T46 l1 x5_1).f1) < (l0_0.length : Int)) = false := decide_eq_false c76
           clear c76; obtain rfl := Option.some.inj H; go_wp2; (go_ret); exact ⟨qE, qF⟩
       ·have c65b0 : decide (2 ≤ ((rd_T46 l1 x5_1).f1)) = false := decide_eq_false c65
        clear c65; have HH_ := qM H; clear H
        go_upto_region 5 with (first | ((with_reducible refine gate_dst (N := 6) rfl ?_); (try (refine gate_guard (by rfl) ?_; dsimp only)); refine box_event ?hg (N := 6) ?hd (cs := #[.int .i64 0, .int .i64 0, .string (⟨#[]⟩ : ByteArray)]) (t := 46) ?hr ?_; (case hd | hg => rfl); (case hr => first | (go_simp; done) | (go_simp; rfl)); intro gb245 hg w86 hbox hb; have BK245 := qM (hbox); have GW245 := qM (qG hg); have GE245 := GW245; have NB243_245 := qM ((by rw [hg]; exact Nat.ne_of_lt (ql (g := gb243) qK) : gb243 ≠ gb245)); have NB245_243 := qM (Ne.symm NB243_245.out); replace BK243 := qM (qb (g := gb243) qK hb); replace HB := qM (qP qF hb); clear hb hbox hg; have hnb87 := NB245_243.out; have hnc87 := NB243_245.out; have hz88 := bx3 BK245.out))
        have H := HH_.out; clear HH_; (refine iteE ?_ ?_ H <;> clear H <;> intro c85b0 c85b1 H)
        ·obtain rfl := Option.some.inj H
         go_wp2; (go_ret); exact ⟨qE, qF⟩
        ·intro c85
         refine iteR ?_ ?_ H <;> clear H <;> intro c89 H
         ·have c89b0 : decide (0 ≤ ((rd_T46 l1 x5_1).f1)) = true := decide_eq_true c89
          clear c89; have H' := qM H; clear H; go_wp2; (go_roundg k1)
          case measure => have := HK1.out; omega
          case rel => exact ⟨(wrap64 (x5_1 + 1)), qV, H', ⟨by have := HK1.out; omega⟩, ⟨qK⟩, ⟨qF⟩⟩
         ·have c89b0 : decide (0 ≤ ((rd_T46 l1 x5_1).f1)) = false := decide_eq_false c89
          clear c89; obtain rfl := Option.some.inj H; go_wp2; (go_ret); exact ⟨qE, qF⟩
      ·intro c64
       have HH_ := qM H; clear H
       go_upto_region 5 with (first | ((with_reducible refine gate_dst (N := 6) rfl ?_); (try (refine gate_guard (by rfl) ?_; dsimp only)); refine box_event ?hg (N := 6) ?hd (cs := #[.int .i64 0, .int .i64 0, .string (⟨#[]⟩ : ByteArray)]) (t := 46) ?hr ?_; (case hd | hg => rfl); (case hr => first | (go_simp; done) | (go_simp; rfl)); intro gb245 hg w97 hbox hb; have BK245 := qM (hbox); have GW245 := qM (qG hg); have GE245 := GW245; have NB243_245 := qM ((by rw [hg]; exact Nat.ne_of_lt (ql (g := gb243) qK) : gb243 ≠ gb245)); have NB245_243 := qM (Ne.symm NB243_245.out); replace BK243 := qM (qb (g := gb243) qK hb); replace HB := qM (qP qF hb); clear hb hbox hg; have hnb98 := NB245_243.out; have hnc98 := NB243_245.out; have hz99 := bx3 BK245.out))
       have H := HH_.out; clear HH_; (refine iteE ?_ ?_ H <;> clear H <;> intro c96b0 c96b1 H)
       ·obtain rfl := Option.some.inj H
        go_wp2; (go_ret); exact ⟨qE, qF⟩
       ·intro c96
        refine iteR ?_ ?_ H <;> clear H <;> intro c100 H
        ·have c100b0 : decide (0 ≤ ((rd_T46 l1 x5_1).f1)) = true := decide_eq_true c100
         clear c100; have H' := qM H; clear H; go_wp2; (go_roundg k1)
         case measure => have := HK1.out; omega
         case rel => exact ⟨(wrap64 (x5_1 + 1)), qV, H', ⟨by have := HK1.out; omega⟩, ⟨qK⟩, ⟨qF⟩⟩
        ·have c100b0 : decide (0 ≤ ((rd_T46 l1 x5_1).f1)) = false := decide_eq_false c100
         clear c100; obtain rfl := Option.some.inj H; go_wp2; (go_ret); exact ⟨qE, qF⟩
    ·intro c6
     refine iteE ?_ ?_ H <;> clear H <;> intro c107b0 c107b1 H
     ·refine iteE ?_ ?_ H <;> clear H <;> intro c108b0 c108b1 H
      ·refine iteR ?_ ?_ H <;> clear H <;> intro c109 H
       ·have c109b0 : decide (2 ≤ ((rd_T46 l1 x5_1).f1)) = true := decide_eq_true c109
        clear c109; have HH_ := qM H; clear H
        go_upto_region 5 with (first | ((with_reducible refine gate_dst (N := 6) rfl ?_); (try (refine gate_guard (by rfl) ?_; dsimp only)); refine box_event ?hg (N := 6) ?hd (cs := #[.int .i64 0, .int .i64 0, .string (⟨#[]⟩ : ByteArray)]) (t := 46) ?hr ?_; (case hd | hg => rfl); (case hr => first | (go_simp; done) | (go_simp; rfl)); intro gb245 hg w111 hbox hb; have BK245 := qM (hbox); have GW245 := qM (qG hg); have GE245 := GW245; have NB243_245 := qM ((by rw [hg]; exact Nat.ne_of_lt (ql (g := gb243) qK) : gb243 ≠ gb245)); have NB245_243 := qM (Ne.symm NB243_245.out); replace BK243 := qM (qb (g := gb243) qK hb); replace HB := qM (qP qF hb); clear hb hbox hg; have hnb112 := NB245_243.out; have hnc112 := NB243_245.out; have hz113 := bx3 BK245.out; have hz114 := bx5 BK243.out))
        have H := HH_.out; clear HH_; (refine iteE ?_ ?_ H <;> clear H <;> intro c110b0 c110b1 H)
        ·obtain rfl := Option.some.inj H
         go_wp2; (go_ret); exact ⟨qE, qF⟩
        ·intro c110
         refine iteR ?_ ?_ H <;> clear H <;> intro c115 H
         ·have c115b0 : (((rd_T46 l1 x5_1).f1) == (-1)) = true := beq_iff_eq.mpr c115
          have c115b1 : (((rd_T46 l1 x5_1).f1) != (-1)) = false := bne_eq_false_iff_eq.mpr c115; clear c115; have H' := qM H; clear H; go_wp2; (go_roundg k1)
          case measure => have := HK1.out; omega
          case rel => exact ⟨(wrap64 (x5_1 + 1)), qV, H', ⟨by have := HK1.out; omega⟩, ⟨qK⟩, ⟨qF⟩⟩
         ·have c115b0 : (((rd_T46 l1 x5_1).f1) == (-1)) = false := beq_eq_false_iff_ne.mpr c115
          have c115b1 : (((rd_T46 l1 x5_1).f1) != (-1)) = true := bne_iff_ne.mpr c115; (refine iteR ?_ ?_ H <;> clear H <;> intro c120 H)
          ·have c120b0 : decide (((rd_T46 l1 x5_1).f1) < (l0_0.length : Int)) = true := decide_eq_true c120
           clear c120; have H' := qM H; clear H; go_wp2; (go_roundg k1)
           case measure => have := HK1.out; omega
           case rel => exact ⟨(wrap64 (x5_1 + 1)), qV, H', ⟨by have := HK1.out; omega⟩, ⟨qK⟩, ⟨qF⟩⟩
          ·have c120b0 : decide (((rd_T46 l1 x5_1).f1) < (l0_0.length : Int)) = false := decide_eq_false c120
           clear c120; obtain rfl := Option.some.inj H; go_wp2; (go_ret); exact ⟨qE, qF⟩
       ·have c109b0 : decide (2 ≤ ((rd_T46 l1 x5_1).f1)) = false := decide_eq_false c109
        clear c109; have HH_ := qM H; clear H
        go_upto_region 5 with (first | ((with_reducible refine gate_dst (N := 6) rfl ?_); (try (refine gate_guard (by rfl) ?_; dsimp only)); refine box_event ?hg (N := 6) ?hd (cs := #[.int .i64 0, .int .i64 0, .string (⟨#[]⟩ : ByteArray)]) (t := 46) ?hr ?_; (case hd | hg => rfl); (case hr => first | (go_simp; done) | (go_simp; rfl)); intro gb245 hg w130 hbox hb; have BK245 := qM (hbox); have GW245 := qM (qG hg); have GE245 := GW245; have NB243_245 := qM ((by rw [hg]; exact Nat.ne_of_lt (ql (g := gb243) qK) : gb243 ≠ gb245)); have NB245_243 := qM (Ne.symm NB243_245.out); replace BK243 := qM (qb (g := gb243) qK hb); replace HB := qM (qP qF hb); clear hb hbox hg; have hnb131 := NB245_243.out; have hnc131 := NB243_245.out; have hz132 := bx3 BK245.out))
        have H := HH_.out; clear HH_; (refine iteE ?_ ?_ H <;> clear H <;> intro c129b0 c129b1 H)
        ·obtain rfl := Option.some.inj H
         go_wp2; (go_ret); exact ⟨qE, qF⟩
        ·intro c129
         refine iteR ?_ ?_ H <;> clear H <;> intro c133 H
         ·have c133b0 : (((rd_T46 l1 x5_1).f1) == (-1)) = true := beq_iff_eq.mpr c133
          have c133b1 : (((rd_T46 l1 x5_1).f1) != (-1)) = false := bne_eq_false_iff_eq.mpr c133; clear c133; have H' := qM H; clear H; go_wp2; (go_roundg k1)
          case measure => have := HK1.out; omega
          case rel => exact ⟨(wrap64 (x5_1 + 1)), qV, H', ⟨by have := HK1.out; omega⟩, ⟨qK⟩, ⟨qF⟩⟩
         ·have c133b0 : (((rd_T46 l1 x5_1).f1) == (-1)) = false := beq_eq_false_iff_ne.mpr c133
          have c133b1 : (((rd_T46 l1 x5_1).f1) != (-1)) = true := bne_iff_ne.mpr c133; obtain rfl := Option.some.inj H; go_wp2; (go_ret); exact ⟨qE, qF⟩
      ·intro c108
       have HH_ := qM H; clear H
       go_upto_region 5 with (first | ((with_reducible refine gate_dst (N := 6) rfl ?_); (try (refine gate_guard (by rfl) ?_; dsimp only)); refine box_event ?hg (N := 6) ?hd (cs := #[.int .i64 0, .int .i64 0, .string (⟨#[]⟩ : ByteArray)]) (t := 46) ?hr ?_; (case hd | hg => rfl); (case hr => first | (go_simp; done) | (go_simp; rfl)); intro gb245 hg w141 hbox hb; have BK245 := qM (hbox); have GW245 := qM (qG hg); have GE245 := GW245; have NB243_245 := qM ((by rw [hg]; exact Nat.ne_of_lt (ql (g := gb243) qK) : gb243 ≠ gb245)); have NB245_243 := qM (Ne.symm NB243_245.out); replace BK243 := qM (qb (g := gb243) qK hb); replace HB := qM (qP qF hb); clear hb hbox hg; have hnb142 := NB245_243.out; have hnc142 := NB243_245.out; have hz143 := bx3 BK245.out))
       have H := HH_.out; clear HH_; (refine iteE ?_ ?_ H <;> clear H <;> intro c140b0 c140b1 H)
       ·obtain rfl := Option.some.inj H
        go_wp2; (go_ret); exact ⟨qE, qF⟩
       ·intro c140
        refine iteR ?_ ?_ H <;> clear H <;> intro c144 H
        ·have c144b0 : (((rd_T46 l1 x5_1).f1) == (-1)) = true := beq_iff_eq.mpr c144
         have c144b1 : (((rd_T46 l1 x5_1).f1) != (-1)) = false := bne_eq_false_iff_eq.mpr c144; clear c144; have H' := qM H; clear H; go_wp2; (go_roundg k1)
         case measure => have := HK1.out; omega
         case rel => exact ⟨(wrap64 (x5_1 + 1)), qV, H', ⟨by have := HK1.out; omega⟩, ⟨qK⟩, ⟨qF⟩⟩
        ·have c144b0 : (((rd_T46 l1 x5_1).f1) == (-1)) = false := beq_eq_false_iff_ne.mpr c144
         have c144b1 : (((rd_T46 l1 x5_1).f1) != (-1)) = true := bne_iff_ne.mpr c144; obtain rfl := Option.some.inj H; go_wp2; (go_ret); exact ⟨qE, qF⟩
     ·intro c107
      refine iteE ?_ ?_ H <;> clear H <;> intro c151b0 c151b1 H
      ·refine iteR ?_ ?_ H <;> clear H <;> intro c152 H
       ·have c152b0 : decide (2 ≤ ((rd_T46 l1 x5_1).f1)) = true := decide_eq_true c152
        clear c152; have HH_ := qM H; clear H
        go_upto_region 5 with (first | ((with_reducible refine gate_dst (N := 6) rfl ?_); (try (refine gate_guard (by rfl) ?_; dsimp only)); refine box_event ?hg (N := 6) ?hd (cs := #[.int .i64 0, .int .i64 0, .string (⟨#[]⟩ : ByteArray)]) (t := 46) ?hr ?_; (case hd | hg => rfl); (case hr => first | (go_simp; done) | (go_simp; rfl)); intro gb245 hg w154 hbox hb; have BK245 := qM (hbox); have GW245 := qM (qG hg); have GE245 := GW245; have NB243_245 := qM ((by rw [hg]; exact Nat.ne_of_lt (ql (g := gb243) qK) : gb243 ≠ gb245)); have NB245_243 := qM (Ne.symm NB243_245.out); replace BK243 := qM (qb (g := gb243) qK hb); replace HB := qM (qP qF hb); clear hb hbox hg; have hnb155 := NB245_243.out; have hnc155 := NB243_245.out; have hz156 := bx3 BK245.out; have hz157 := bx5 BK243.out))
        have H := HH_.out; clear HH_; (refine iteE ?_ ?_ H <;> clear H <;> intro c153b0 c153b1 H)
        ·obtain rfl := Option.some.inj H
         go_wp2; (go_ret); exact ⟨qE, qF⟩
        ·intro c153
         refine iteR ?_ ?_ H <;> clear H <;> intro c158 H
         ·have c158b0 : decide (((rd_T46 l1 x5_1).f1) < (l0_0.length : Int)) = true := decide_eq_true c158
          clear c158; have H' := qM H; clear H; go_wp2; (go_roundg k1)
          case measure => have := HK1.out; omega
          case rel => exact ⟨(wrap64 (x5_1 + 1)), qV, H', ⟨by have := HK1.out; omega⟩, ⟨qK⟩, ⟨qF⟩⟩
         ·have c158b0 : decide (((rd_T46 l1 x5_1).f1) < (l0_0.length : Int)) = false := decide_eq_false c158
          clear c158; obtain rfl := Option.some.inj H; go_wp2; (go_ret); exact ⟨qE, qF⟩
       ·have c152b0 : decide (2 ≤ ((rd_T46 l1 x5_1).f1)) = false := decide_eq_false c152
        clear c152; have HH_ := qM H; clear H
        go_upto_region 5 with (first | ((with_reducible refine gate_dst (N := 6) rfl ?_); (try (refine gate_guard (by rfl) ?_; dsimp only)); refine box_event ?hg (N := 6) ?hd (cs := #[.int .i64 0, .int .i64 0, .string (⟨#[]⟩ : ByteArray)]) (t := 46) ?hr ?_; (case hd | hg => rfl); (case hr => first | (go_simp; done) | (go_simp; rfl)); intro gb245 hg w168 hbox hb; have BK245 := qM (hbox); have GW245 := qM (qG hg); have GE245 := GW245; have NB243_245 := qM ((by rw [hg]; exact Nat.ne_of_lt (ql (g := gb243) qK) : gb243 ≠ gb245)); have NB245_243 := qM (Ne.symm NB243_245.out); replace BK243 := qM (qb (g := gb243) qK hb); replace HB := qM (qP qF hb); clear hb hbox hg; have hnb169 := NB245_243.out; have hnc169 := NB243_245.out; have hz170 := bx3 BK245.out))
        have H := HH_.out; clear HH_; (refine iteE ?_ ?_ H <;> clear H <;> intro c167b0 c167b1 H)
        ·obtain rfl := Option.some.inj H
         go_wp2; (go_ret); exact ⟨qE, qF⟩
        ·intro c167
         obtain rfl := Option.some.inj H; go_wp2; (go_ret); exact ⟨qE, qF⟩
      ·intro c151
       have HH_ := qM H; clear H
       go_upto_region 5 with (first | ((with_reducible refine gate_dst (N := 6) rfl ?_); (try (refine gate_guard (by rfl) ?_; dsimp only)); refine box_event ?hg (N := 6) ?hd (cs := #[.int .i64 0, .int .i64 0, .string (⟨#[]⟩ : ByteArray)]) (t := 46) ?hr ?_; (case hd | hg => rfl); (case hr => first | (go_simp; done) | (go_simp; rfl)); intro gb245 hg w175 hbox hb; have BK245 := qM (hbox); have GW245 := qM (qG hg); have GE245 := GW245; have NB243_245 := qM ((by rw [hg]; exact Nat.ne_of_lt (ql (g := gb243) qK) : gb243 ≠ gb245)); have NB245_243 := qM (Ne.symm NB243_245.out); replace BK243 := qM (qb (g := gb243) qK hb); replace HB := qM (qP qF hb); clear hb hbox hg; have hnb176 := NB245_243.out; have hnc176 := NB243_245.out; have hz177 := bx3 BK245.out))
       have H := HH_.out; clear HH_; (refine iteE ?_ ?_ H <;> clear H <;> intro c174b0 c174b1 H)
       ·obtain rfl := Option.some.inj H
        go_wp2; (go_ret); exact ⟨qE, qF⟩
       ·intro c174
        obtain rfl := Option.some.inj H; go_wp2; (go_ret); exact ⟨qE, qF⟩
   ·obtain rfl := Option.some.inj H
    go_wp2; (go_ret); exact ⟨qE, qF⟩
mutual
def arboristref42_byRule.j0 : Nat → Bool → List ByteArray → List ByteArray → List Int → List (S58) → List (S61) → Int → Int → Int → Int → List (S46) → ByteArray → List (S26) → Option (Bool)
 | 0, _, _, _, _, _, _, _, _, _, _, _, _, _ => none
 | k + 1, x43, x247000, x247001, x247002, x247003, x247004, x248000, x248001, x248002, x248003, x248004, x248005, x248006 => if x43 = true then (some false) else (arboristref42_byRule.l0 k 0 x247000 x247001 x247002 x247003 x247004 x248000 x248001 x248002 x248003 x248004 x248005 x248006)
def arboristref42_byRule.l0 : Nat → Int → List ByteArray → List ByteArray → List Int → List (S58) → List (S61) → Int → Int → Int → Int → List (S46) → ByteArray → List (S26) → Option (Bool)
 | 0, _, _, _, _, _, _, _, _, _, _, _, _, _ => none
 | k + 1, x5, x247000, x247001, x247002, x247003, x247004, x248000, x248001, x248002, x248003, x248004, x248005, x248006 => if x5 < (x248006.length : Int) then (if 0 ≤ x5 then (if 0 ≤ x248001 then (if x248001 < (x247003.length : Int) then (if x5 < (((rd_T58 x247003 x248001).f1).length : Int) then (if ((rd_T26 x248006 x5).f0) = (rd ((rd_T58 x247003 x248001).f1) x5) then (arboristref42_byRule.l0 k (wrap64 (x5 + 1)) x247000 x247001 x247002 x247003 x247004 x248000 x248001 x248002 x248003 x248004 x248005 x248006) else (some false)) else (none)) else (none)) else (none)) else (none)) else (some true)
end
def arboristref42_byRule.f (k : Nat) (l0_0 : List ByteArray) (l0_1 : List ByteArray) (l0_2 : List Int) (l0_3 : List (S58)) (l0_4 : List (S61)) (a1_0 : Int) (a1_1 : Int) (a1_2 : Int) (a1_3 : Int) (l1_4 : List (S46)) (a1_5 : ByteArray) (l1_6 : List (S26)) : Option (Bool) := if a1_1 < 0 then (arboristref42_byRule.j0 k true l0_0 l0_1 l0_2 l0_3 l0_4 a1_0 a1_1 a1_2 a1_3 l1_4 a1_5 l1_6) else (if a1_1 ≥ (l0_3.length : Int) then (arboristref42_byRule.j0 k true l0_0 l0_1 l0_2 l0_3 l0_4 a1_0 a1_1 a1_2 a1_3 l1_4 a1_5 l1_6) else (if 0 ≤ a1_1 then (if a1_1 < (l0_3.length : Int) then (if ((rd_T58 l0_3 a1_1).f0) = (wrap64 ((-1) - a1_0)) then (arboristref42_byRule.j0 k ((l1_6.length : Int) != (((rd_T58 l0_3 a1_1).f1).length : Int)) l0_0 l0_1 l0_2 l0_3 l0_4 a1_0 a1_1 a1_2 a1_3 l1_4 a1_5 l1_6) else (arboristref42_byRule.j0 k true l0_0 l0_1 l0_2 l0_3 l0_4 a1_0 a1_1 a1_2 a1_3 l1_4 a1_5 l1_6)) else (none)) else (none)))
theorem arboristref42_byRule.calls (k : Nat) (A0_0 : Option Addr) (c0_0 : Nat) (l0_0 : List ByteArray) (A0_1 : Option Addr) (c0_1 : Nat) (l0_1 : List ByteArray) (A0_2 : Option Addr) (c0_2 : Nat) (l0_2 : List Int) (A0_3 : Option Addr) (c0_3 : Nat) (l0_3 : List (S58)) (A0_4 : Option Addr) (c0_4 : Nat) (l0_4 : List (S61)) (a1_0 : Int) (a1_1 : Int) (a1_2 : Int) (a1_3 : Int) (A1_4 : Option Addr) (c1_4 : Nat) (l1_4 : List (S46)) (a1_5 : ByteArray) (A1_6 : Option Addr) (c1_6 : Nat) (l1_6 : List (S26)) (r : Bool) (w : World) (hr0_0 : Kd.C Kd.string w A0_0 l0_0.length l0_0) (hc0_0 : l0_0.length ≤ c0_0) (hr0_1 : Kd.C Kd.string w A0_1 l0_1.length l0_1) (hc0_1 : l0_1.length ≤ c0_1) (hr0_2 : Kd.C (Kd.int .i64) w A0_2 l0_2.length l0_2) (hc0_2 : l0_2.length ≤ c0_2) (hr0_3 : Kd.C k58 w A0_3 l0_3.length l0_3) (hc0_3 : l0_3.length ≤ c0_3) (hr0_4 : Kd.C k61 w A0_4 l0_4.length l0_4) (hc0_4 : l0_4.length ≤ c0_4) (hr1_4 : Kd.C k46 w A1_4 l1_4.length l1_4) (hc1_4 : l1_4.length ≤ c1_4) (hr1_6 : Kd.C k26 w A1_6 l1_6.length l1_6) (hc1_6 : l1_6.length ≤ c1_6) (h : arboristref42_byRule.f k l0_0 l0_1 l0_2 l0_3 l0_4 a1_0 a1_1 a1_2 a1_3 l1_4 a1_5 l1_6 = some r) :
  Calls Tryd.prog 64 #[.agg #[.slice A0_0 l0_0.length c0_0, .slice A0_1 l0_1.length c0_1, .slice A0_2 l0_2.length c0_2, .slice A0_3 l0_3.length c0_3, .slice A0_4 l0_4.length c0_4], .agg #[.int .i64 a1_0, .int .i64 a1_1, .int .i64 a1_2, .int .i64 a1_3, .slice A1_4 l1_4.length c1_4, .string a1_5, .slice A1_6 l1_6.length c1_6]] w fun e w' => e = .returned (.bool r) ∧ Below w.heap.size w w' := by
 have hu40 := Tryd.underlying40; have hu26 := Tryd.underlying26; have HR0_0 := qM hr0_0; have HC0_0 := qM hc0_0; clear hr0_0 hc0_0; have HR0_1 := qM hr0_1; have HC0_1 := qM hc0_1; clear hr0_1 hc0_1; have HR0_2 := qM hr0_2; have HC0_2 := qM hc0_2; clear hr0_2 hc0_2; have HR0_3 := qM hr0_3; have HC0_3 := qM hc0_3; clear hr0_3 hc0_3; have HR0_4 := qM hr0_4; have HC0_4 := qM hc0_4; clear hr0_4 hc0_4; have HR1_4 := qM hr1_4; have HC1_4 := qM hc1_4; clear hr1_4 hc1_4; have HR1_6 := qM hr1_6; have HC1_6 := qM hc1_6; clear hr1_6 hc1_6; have HB := qM (Below.refl w.heap.size w); have H : (if a1_1 < 0 then (arboristref42_byRule.j0 k true l0_0 l0_1 l0_2 l0_3 l0_4 a1_0 a1_1 a1_2 a1_3 l1_4 a1_5 l1_6) else (if a1_1 ≥ (l0_3.length : Int) then (arboristref42_byRule.j0 k true l0_0 l0_1 l0_2 l0_3 l0_4 a1_0 a1_1 a1_2 a1_3 l1_4 a1_5 l1_6) else (if 0 ≤ a1_1 then (if a1_1 < (l0_3.length : Int) then (if ((rd_T58 l0_3 a1_1).f0) = (wrap64 ((-1) - a1_0)) then (arboristref42_byRule.j0 k ((l1_6.length : Int) != (((rd_T58 l0_3 a1_1).f1).length : Int)) l0_0 l0_1 l0_2 l0_3 l0_4 a1_0 a1_1 a1_2 a1_3 l1_4 a1_5 l1_6) else (arboristref42_byRule.j0 k true l0_0 l0_1 l0_2 l0_3 l0_4 a1_0 a1_1 a1_2 a1_3 l1_4 a1_5 l1_6)) else (none)) else (none)))) = some r := h; clear h; have HC3 := qM H; clear H; (go_enter Tryd.func64, Tryd.ntmps64)
 go_upto_region 1 with (first | ((with_reducible refine gate_dst (N := 2) rfl ?_); (try (refine gate_guard (by rfl) ?_; dsimp only)); refine box_event ?hg (N := 2) ?hd (cs := #[.slice A0_0 l0_0.length c0_0, .slice A0_1 l0_1.length c0_1, .slice A0_2 l0_2.length c0_2, .slice A0_3 l0_3.length c0_3, .slice A0_4 l0_4.length c0_4]) (t := 40) ?hr ?_; (case hd | hg => rfl); (case hr => first | (go_simp; done) | (go_simp; rfl)); intro gb246 hg w4 hbox hb; have BK246 := qM (hbox); have GW246 := qM (qG hg); have GE246 := GW246; replace HB := qM (qP qF hb); clear hb hbox hg) | ((with_reducible refine gate_dst (N := 3) rfl ?_); (try (refine gate_guard (by rfl) ?_; dsimp only)); refine box_event ?hg (N := 3) ?hd (cs := #[.int .i64 a1_0, .int .i64 a1_1, .int .i64 a1_2, .int .i64 a1_3, .slice A1_4 l1_4.length c1_4, .string a1_5, .slice A1_6 l1_6.length c1_6]) (t := 26) ?hr ?_; (case hd | hg => rfl); (case hr => first | (go_simp; done) | (go_simp; rfl)); intro gb247 hg w5 hbox hb; have BK247 := qM (hbox); have GW247 := qM (qG hg); have GE247 := GW247; have NB246_247 := qM ((by rw [hg]; exact Nat.ne_of_lt (ql (g := gb246) qK) : gb246 ≠ gb247)); have NB247_246 := qM (Ne.symm NB246_247.out); replace BK246 := qM (qb (g := gb246) qK hb); replace HB := qM (qP qF hb); clear hb hbox hg))
 repeat (go_quiet (first | ((with_reducible refine gate_dst (N := 2) rfl ?_); (try (refine gate_guard (by rfl) ?_; dsimp only)); refine box_event ?hg (N := 2) ?hd (cs := #[.slice A0_0 l0_0.length c0_0, .slice A0_1 l0_1.length c0_1, .slice A0_2 l0_2.length c0_2, .slice A0_3 l0_3.length c0_3, .slice A0_4 l0_4.length c0_4]) (t := 40) ?hr ?_; (case hd | hg => rfl); (case hr => first | (go_simp; done) | (go_simp; rfl)); intro gb246 hg w4 hbox hb; have BK246 := qM (hbox); have GW246 := qM (qG hg); have GE246 := GW246; replace HB := qM (qP qF hb); clear hb hbox hg) | ((with_reducible refine gate_dst (N := 3) rfl ?_); (try (refine gate_guard (by rfl) ?_; dsimp only)); refine box_event ?hg (N := 3) ?hd (cs := #[.int .i64 a1_0, .int .i64 a1_1, .int .i64 a1_2, .int .i64 a1_3, .slice A1_4 l1_4.length c1_4, .string a1_5, .slice A1_6 l1_6.length c1_6]) (t := 26) ?hr ?_; (case hd | hg => rfl); (case hr => first | (go_simp; done) | (go_simp; rfl)); intro gb247 hg w5 hbox hb; have BK247 := qM (hbox); have GW247 := qM (qG hg); have GE247 := GW247; have NB246_247 := qM ((by rw [hg]; exact Nat.ne_of_lt (ql (g := gb246) qK) : gb246 ≠ gb247)); have NB247_246 := qM (Ne.symm NB246_247.out); replace BK246 := qM (qb (g := gb246) qK hb); replace HB := qM (qP qF hb); clear hb hbox hg)); go_upto_region 1 with (first | ((with_reducible refine gate_dst (N := 2) rfl ?_); (try (refine gate_guard (by rfl) ?_; dsimp only)); refine box_event ?hg (N := 2) ?hd (cs := #[.slice A0_0 l0_0.length c0_0, .slice A0_1 l0_1.length c0_1, .slice A0_2 l0_2.length c0_2, .slice A0_3 l0_3.length c0_3, .slice A0_4 l0_4.length c0_4]) (t := 40) ?hr ?_; (case hd | hg => rfl); (case hr => first | (go_simp; done) | (go_simp; rfl)); intro gb246 hg w4 hbox hb; have BK246 := qM (hbox); have GW246 := qM (qG hg); have GE246 := GW246; replace HB := qM (qP qF hb); clear hb hbox hg) | ((with_reducible refine gate_dst (N := 3) rfl ?_); (try (refine gate_guard (by rfl) ?_; dsimp only)); refine box_event ?hg (N := 3) ?hd (cs := #[.int .i64 a1_0, .int .i64 a1_1, .int .i64 a1_2, .int .i64 a1_3, .slice A1_4 l1_4.length c1_4, .string a1_5, .slice A1_6 l1_6.length c1_6]) (t := 26) ?hr ?_; (case hd | hg => rfl); (case hr => first | (go_simp; done) | (go_simp; rfl)); intro gb247 hg w5 hbox hb; have BK247 := qM (hbox); have GW247 := qM (qG hg); have GE247 := GW247; have NB246_247 := qM ((by rw [hg]; exact Nat.ne_of_lt (ql (g := gb246) qK) : gb246 ≠ gb247)); have NB247_246 := qM (Ne.symm NB246_247.out); replace BK246 := qM (qb (g := gb246) qK hb); replace HB := qM (qP qF hb); clear hb hbox hg)))
 (try simp only [Act.put, List.setIfInBounds_toArray, List.set_cons_zero, List.set_cons_succ]); (go_cut [43] (fun v43 wc => ∃ (kq : Nat) (x43_2 : Bool), v43 = .bool x43_2 ∧ Aside0 (arboristref42_byRule.j0 kq x43_2 l0_0 l0_1 l0_2 l0_3 l0_4 a1_0 a1_1 a1_2 a1_3 l1_4 a1_5 l1_6 = some r) ∧ Aside0 (kq ≤ k) ∧ Aside0 (wc.heap[gb246]? = some (.cells #[(.slice A0_0 l0_0.length c0_0), (.slice A0_1 l0_1.length c0_1), (.slice A0_2 l0_2.length c0_2), (.slice A0_3 l0_3.length c0_3), (.slice A0_4 l0_4.length c0_4)] 40 (0, 0))) ∧ Aside0 (wc.heap[gb247]? = some (.cells #[.int .i64 a1_0, .int .i64 a1_1, .int .i64 a1_2, .int .i64 a1_3, (.slice A1_4 l1_4.length c1_4), .string a1_5, (.slice A1_6 l1_6.length c1_6)] 26 (0, 0))) ∧ Aside0 (Below w.heap.size w wc)))
 case first =>
  have H := HC3.out; clear HC3; have hnb7 := NB247_246.out; have hnc7 := NB246_247.out; have hz8 := bx7 BK247.out; (refine iteD ?_ ?_ H <;> clear H <;> intro c6b0 H)
  ·(first | rw [c6b0] | (simp only [i64_w, i32_w]; rw [c6b0]) | skip)
   have H' := qM H; clear H; go_wp2; (repeat (go_quiet (fail); try go_wp2)); go_meet
   case rel => exact ⟨_, (true), qV, H', ⟨by first | omega | exact Nat.le_refl _⟩, ⟨qK⟩, ⟨qK⟩, ⟨qF⟩⟩
  ·(first | rw [c6b0] | (simp only [i64_w, i32_w]; rw [c6b0]) | skip)
   have hz12 := bx5 BK246.out; (refine iteR ?_ ?_ H <;> clear H <;> intro c9 H)
   ·have c9b0 : decide ((l0_3.length : Int) ≤ a1_1) = true := decide_eq_true c9
    clear c9; have H' := qM H; clear H; go_wp2; (repeat (go_quiet (fail); try go_wp2)); go_meet
    case rel => exact ⟨_, (true), qV, H', ⟨by first | omega | exact Nat.le_refl _⟩, ⟨qK⟩, ⟨qK⟩, ⟨qF⟩⟩
   ·have c9b0 : decide ((l0_3.length : Int) ≤ a1_1) = false := decide_eq_false c9
    clear c9; refine iteN ?_ H; clear H; (intro c13b0 H); refine iteN ?_ H; clear H; (intro c14b0 H); have p248 : 0 ≤ (a1_1 : Int) := qo qX; have q248 : a1_1 < (l0_3.length : Int) := qo qX; obtain ⟨ad248, A248_1, c248_1, A248_2, c248_2, e248, hx248_0, hx248_1, hx248_2, hx248_3, hx248_4, hl248_1, hi248_1, hl248_2, hi248_2⟩ := at_T58 HR0_3.out a1_1 p248 q248
    cases e248
    replace hx248_0 := qv HB.out hx248_0; replace hx248_1 := qv HB.out hx248_1; replace hx248_2 := qv HB.out hx248_2; replace hx248_3 := qv HB.out hx248_3; replace hx248_4 := qv HB.out hx248_4; have HR248_1 := qM hi248_1; have HC248_1 := qM hl248_1; clear hi248_1 hl248_1; have HR248_2 := qM hi248_2; have HC248_2 := qM hl248_2; clear hi248_2 hl248_2; replace p248 := eq_true p248; replace q248 := eq_true q248; (refine iteE ?_ ?_ H <;> clear H <;> intro c15b0 c15b1 H)
    ·have H' := qM H
     clear H; have p249 : 0 ≤ (a1_1 : Int) := qo qX; have q249 : a1_1 < (l0_3.length : Int) := qo qX; obtain ⟨ad249, A249_1, c249_1, A249_2, c249_2, e249, hx249_0, hx249_1, hx249_2, hx249_3, hx249_4, hl249_1, hi249_1, hl249_2, hi249_2⟩ := at_T58 HR0_3.out a1_1 p249 q249; obtain rfl : ad248 = ad249 := (by injection e249); replace hx249_0 := qv HB.out hx249_0; replace hx249_1 := qv HB.out hx249_1; replace hx249_2 := qv HB.out hx249_2; replace hx249_3 := qv HB.out hx249_3; replace hx249_4 := qv HB.out hx249_4; have HR249_1 := qM hi249_1; have HC249_1 := qM hl249_1; clear hi249_1 hl249_1; have HR249_2 := qM hi249_2; have HC249_2 := qM hl249_2; clear hi249_2 hl249_2; replace p249 := eq_true p249; replace q249 := eq_true q249; have ea_ := Option.some.inj (hx248_1.symm.trans hx249_1); (injection ea_ with ea_ en_ ec_); subst ea_; subst ec_; clear en_; have ea_ := Option.some.inj (hx248_2.symm.trans hx249_2); (injection ea_ with ea_ en_ ec_); subst ea_; subst ec_; clear en_; go_wp2; (repeat (go_quiet (fail); try go_wp2)); go_meet
     case rel => exact ⟨_, (((l1_6.length : Int) != (((rd_T58 l0_3 a1_1).f1).length : Int))), qV, H', ⟨by first | omega | exact Nat.le_refl _⟩, ⟨qK⟩, ⟨qK⟩, ⟨qF⟩⟩
    ·intro c15
     have H' := qM H; clear H; go_wp2; (repeat (go_quiet (fail); try go_wp2)); go_meet
     case rel => exact ⟨_, (true), qV, H', ⟨by first | omega | exact Nat.le_refl _⟩, ⟨qK⟩, ⟨qK⟩, ⟨qF⟩⟩
 case rest =>
  clear HC3; (try clear c1); (try clear c2); (try clear p2); (try clear q2); (try clear hx2); (try clear c6); (try clear c6b0); (try clear p6); (try clear c7); (try clear c9); (try clear c9b0); (try clear c10); (try clear c13); (try clear c13b0); (try clear c14); (try clear c14b0); (try clear c15); (try clear c15b0); (try clear c15b1); (try clear c16); (try clear c19); (try clear hz12); (try clear hz8); (try clear hx248_0 hx248_1 hx248_2 hx248_3 hx248_4); (try clear hx249_0 hx249_1 hx249_2 hx249_3 hx249_4); (try clear p248); (try clear p249); (try clear q248); (try clear q249); obtain ⟨kq, x43_2, rfl, HA, HJ2, BK246, BK247, HB⟩ := hcut
  cases kq with
  | zero => exact absurd HA.out (by simp [arboristref42_byRule.j0])
  | succ kj2 =>
   have H := HA.out; clear HA; (simp only [arboristref42_byRule.j0] at H); (refine iteR ?_ ?_ H <;> clear H <;> intro c22 H)
   ·subst c22
    obtain rfl := Option.some.inj H; go_wp2; (repeat (go_quiet (fail); try go_wp2)); (go_ret); exact ⟨qE, qF⟩
   ·replace c22 := Bool.eq_false_iff.mpr c22
    subst c22; have H' := qM H; clear H; go_wp2; (repeat (go_quiet (fail); try go_wp2)); (go_loopg [5] kj2 (fun kq v5 w' => ∃ (x5_2 : Int), v5 = .int .i64 x5_2 ∧ Aside0 (arboristref42_byRule.l0 kq x5_2 l0_0 l0_1 l0_2 l0_3 l0_4 a1_0 a1_1 a1_2 a1_3 l1_4 a1_5 l1_6 = some r) ∧ Aside0 (kq ≤ kj2) ∧ Aside0 (w'.heap[gb246]? = some (.cells #[(.slice A0_0 l0_0.length c0_0), (.slice A0_1 l0_1.length c0_1), (.slice A0_2 l0_2.length c0_2), (.slice A0_3 l0_3.length c0_3), (.slice A0_4 l0_4.length c0_4)] 40 (0, 0))) ∧ Aside0 (w'.heap[gb247]? = some (.cells #[.int .i64 a1_0, .int .i64 a1_1, .int .i64 a1_2, .int .i64 a1_3, (.slice A1_4 l1_4.length c1_4), .string a1_5, (.slice A1_6 l1_6.length c1_6)] 26 (0, 0))) ∧ Aside0 (Below w.heap.size w w')))
    case atStart => exact ⟨(0), qV, H', ⟨Nat.le_refl _⟩, ⟨qK⟩, ⟨qK⟩, ⟨qF⟩⟩
    case round =>
     (clear H'); (try clear c1); (try clear c2); (try clear p2); (try clear q2); (try clear hx2); (try clear c6); (try clear c6b0); (try clear p6); (try clear c7); (try clear c9); (try clear c9b0); (try clear c10); (try clear c13); (try clear c13b0); (try clear c14); (try clear c14b0); (try clear c15); (try clear c15b0); (try clear c15b1); (try clear c16); (try clear c19); (try clear c22); (try clear hz12); (try clear hz8); (try clear hx248_0 hx248_1 hx248_2 hx248_3 hx248_4); (try clear hx249_0 hx249_1 hx249_2 hx249_3 hx249_4); (try clear p2); (try clear p248); (try clear p249); (try clear p6); (try clear q2); (try clear q248); (try clear q249); obtain ⟨x5_2, rfl, HA, HK2, BK246, BK247, HB⟩ := hrel
     cases gk with
     | zero => exact absurd HA.out (by simp [arboristref42_byRule.l0])
     | succ k2 =>
      have H := HA.out; clear HA; (simp only [arboristref42_byRule.l0] at H); have hnb29 := NB247_246.out; have hnc29 := NB246_247.out; have hz30 := bx7 BK247.out; (refine iteD ?_ ?_ H <;> clear H <;> intro c23b0 H)
      ·refine iteN ?_ H
       clear H; (intro c24b0 H); refine iteN ?_ H; clear H; (intro c25b0 H); refine iteN ?_ H; clear H; (intro c26b0 H); refine iteN ?_ H; clear H; (intro c27b0 H); have p250 : 0 ≤ (x5_2 : Int) := qo qX; have q250 : x5_2 < (l1_6.length : Int) := qo qX; obtain ⟨ad250, A250_4, c250_4, A250_6, c250_6, e250, hx250_0, hx250_1, hx250_2, hx250_3, hx250_4, hx250_5, hx250_6, hl250_4, hi250_4, hl250_6, hi250_6⟩ := at_T26 HR1_6.out x5_2 p250 q250
       cases e250
       replace hx250_0 := qv HB.out hx250_0; replace hx250_1 := qv HB.out hx250_1; replace hx250_2 := qv HB.out hx250_2; replace hx250_3 := qv HB.out hx250_3; replace hx250_4 := qv HB.out hx250_4; replace hx250_5 := qv HB.out hx250_5; replace hx250_6 := qv HB.out hx250_6; have HR250_4 := qM hi250_4; have HC250_4 := qM hl250_4; clear hi250_4 hl250_4; have HR250_6 := qM hi250_6; have HC250_6 := qM hl250_6; clear hi250_6 hl250_6; replace p250 := eq_true p250; replace q250 := eq_true q250; have hz31 := bx5 BK246.out; have p251 : 0 ≤ (a1_1 : Int) := qo qX; have q251 : a1_1 < (l0_3.length : Int) := qo qX; obtain ⟨ad251, A251_1, c251_1, A251_2, c251_2, e251, hx251_0, hx251_1, hx251_2, hx251_3, hx251_4, hl251_1, hi251_1, hl251_2, hi251_2⟩ := at_T58 HR0_3.out a1_1 p251 q251
       cases e251
       replace hx251_0 := qv HB.out hx251_0; replace hx251_1 := qv HB.out hx251_1; replace hx251_2 := qv HB.out hx251_2; replace hx251_3 := qv HB.out hx251_3; replace hx251_4 := qv HB.out hx251_4; have HR251_1 := qM hi251_1; have HC251_1 := qM hl251_1; clear hi251_1 hl251_1; have HR251_2 := qM hi251_2; have HC251_2 := qM hl251_2; clear hi251_2 hl251_2; replace p251 := eq_true p251; replace q251 := eq_true q251; have p252 : 0 ≤ (x5_2 : Int) := qo qX; have q252 : x5_2 < (((rd_T58 l0_3 a1_1).f1).length : Int) := qo qX; obtain ⟨ad252, e252, hx252_0⟩ := Kd.at_int HR251_1.out x5_2 p252 q252
       cases e252
       replace hx252_0 := qv HB.out hx252_0; replace p252 := eq_true p252; replace q252 := eq_true q252; (refine iteE ?_ ?_ H <;> clear H <;> intro c28b0 c28b1 H)
       ·have H' := qM H
        clear H; go_wp2; (repeat (go_quiet (fail); try go_wp2)); (go_roundg k2)
        case measure => have := HJ2.out; have := HK2.out; omega
        case rel => exact ⟨(wrap64 (x5_2 + 1)), qV, H', ⟨by have := HJ2.out; have := HK2.out; omega⟩, ⟨qK⟩, ⟨qK⟩, ⟨qF⟩⟩
       ·intro c28
        obtain rfl := Option.some.inj H; go_wp2; (repeat (go_quiet (fail); try go_wp2)); (go_ret); exact ⟨qE, qF⟩
      ·obtain rfl := Option.some.inj H
       go_wp2; (repeat (go_quiet (fail); try go_wp2)); (go_ret); exact ⟨qE, qF⟩
mutual
def arboristref42_within.j0 : Nat → Bool → List ByteArray → List ByteArray → List Int → List (S58) → List (S61) → Int → Int → Int → Int → List (S46) → ByteArray → List (S26) → Option (Bool)
 | 0, _, _, _, _, _, _, _, _, _, _, _, _, _ => none
 | k + 1, x34, x254000, x254001, x254002, x254003, x254004, x255000, x255001, x255002, x255003, x255004, x255005, x255006 => if x34 = true then (some false) else (if x255000 ≥ 0 then (if x255001 = (-1) then (arboristref42_within.j1 k (decide ((x255006.length : Int) > 0)) x254000 x254001 x254002 x254003 x254004 x255000 x255001 x255002 x255003 x255004 x255005 x255006) else (arboristref42_within.j1 k true x254000 x254001 x254002 x254003 x254004 x255000 x255001 x255002 x255003 x255004 x255005 x255006)) else (if (x255004.length : Int) > 0 then (arboristref42_within.j2 k true x254000 x254001 x254002 x254003 x254004 x255000 x255001 x255002 x255003 x255004 x255005 x255006) else (arboristref42_within.j2 k (x255005.toList != ([] : List UInt8)) x254000 x254001 x254002 x254003 x254004 x255000 x255001 x255002 x255003 x255004 x255005 x255006)))
def arboristref42_within.j1 : Nat → Bool → List ByteArray → List ByteArray → List Int → List (S58) → List (S61) → Int → Int → Int → Int → List (S46) → ByteArray → List (S26) → Option (Bool)
 | 0, _, _, _, _, _, _, _, _, _, _, _, _, _ => none
 | k + 1, x46, x254000, x254001, x254002, x254003, x254004, x255000, x255001, x255002, x255003, x255004, x255005, x255006 => if x46 = true then (some false) else (if x255003 = 1 then (if x255000 = 0 then (some false) else (if (x255004.length : Int) = 0 then (some (x255005.toList == ([] : List UInt8))) else (some false))) else (if x255003 = 0 then (if ((x255005.toList == ([] : List UInt8)) == (x255000 == 0)) = true then ((arboristref42_lead.f k x254000 x254001 x254002 x254003 x254004 x255004).bind fun t256 => (some t256)) else (some false)) else (some false)))
def arboristref42_within.j2 : Nat → Bool → List ByteArray → List ByteArray → List Int → List (S58) → List (S61) → Int → Int → Int → Int → List (S46) → ByteArray → List (S26) → Option (Bool)
 | 0, _, _, _, _, _, _, _, _, _, _, _, _, _ => none
 | k + 1, x90, x254000, x254001, x254002, x254003, x254004, x255000, x255001, x255002, x255003, x255004, x255005, x255006 => if x90 = true then (some false) else (arboristref42_within.l0 k 0 x254000 x254001 x254002 x254003 x254004 x255000 x255001 x255002 x255003 x255004 x255005 x255006)
def arboristref42_within.l0 : Nat → Int → List ByteArray → List ByteArray → List Int → List (S58) → List (S61) → Int → Int → Int → Int → List (S46) → ByteArray → List (S26) → Option (Bool)
 | 0, _, _, _, _, _, _, _, _, _, _, _, _, _ => none
 | k + 1, x7, x254000, x254001, x254002, x254003, x254004, x255000, x255001, x255002, x255003, x255004, x255005, x255006 => if x7 < (x255006.length : Int) then (if 0 ≤ x7 then ((arboristref42_within.f k x254000 x254001 x254002 x254003 x254004 ((rd_T26 x255006 x7).f0) ((rd_T26 x255006 x7).f1) ((rd_T26 x255006 x7).f2) ((rd_T26 x255006 x7).f3) ((rd_T26 x255006 x7).f4) ((rd_T26 x255006 x7).f5) ((rd_T26 x255006 x7).f6) false).bind fun t258 => (if t258 = true then (arboristref42_within.l0 k (wrap64 (x7 + 1)) x254000 x254001 x254002 x254003 x254004 x255000 x255001 x255002 x255003 x255004 x255005 x255006) else (some false))) else (none)) else (if x255003 = 2 then (some (x255001 == (-1))) else (if x255003 = 0 then ((arboristref42_byRule.f k x254000 x254001 x254002 x254003 x254004 x255000 x255001 x255002 x255003 x255004 x255005 x255006).bind fun t259 => (some t259)) else (some false)))
def arboristref42_within.f : Nat → List ByteArray → List ByteArray → List Int → List (S58) → List (S61) → Int → Int → Int → Int → List (S46) → ByteArray → List (S26) → Bool → Option (Bool)
 | 0, _, _, _, _, _, _, _, _, _, _, _, _, _ => none
 | k + 1, l0_0, l0_1, l0_2, l0_3, l0_4, a1_0, a1_1, a1_2, a1_3, l1_4, a1_5, l1_6, a2 => if a1_2 < 0 then (arboristref42_within.j0 k true l0_0 l0_1 l0_2 l0_3 l0_4 a1_0 a1_1 a1_2 a1_3 l1_4 a1_5 l1_6) else ((arboristref15_Is.f l0_0 l0_1 l0_2 l0_3 l0_4 a1_0).bind fun t255 => (if t255 = true then (if a1_0 = 1 then (arboristref42_within.j0 k true l0_0 l0_1 l0_2 l0_3 l0_4 a1_0 a1_1 a1_2 a1_3 l1_4 a1_5 l1_6) else (if a1_0 = (-1) then (arboristref42_within.j0 k true l0_0 l0_1 l0_2 l0_3 l0_4 a1_0 a1_1 a1_2 a1_3 l1_4 a1_5 l1_6) else (arboristref42_within.j0 k ((a1_0 == 0) != a2) l0_0 l0_1 l0_2 l0_3 l0_4 a1_0 a1_1 a1_2 a1_3 l1_4 a1_5 l1_6))) else (arboristref42_within.j0 k true l0_0 l0_1 l0_2 l0_3 l0_4 a1_0 a1_1 a1_2 a1_3 l1_4 a1_5 l1_6)))
end
def arboristref42_within.T14 : Bool × List (List Nat × List Nat) := (true, [([], []), ([], []), ([1], [1]), ([], []), ([2, 3], [2, 3]), ([4], [4]), ([0, 5], [0, 5]), ([6], [6])])
def arboristref42_within.B14 : List Nat := [0, 0, 2, 0, 14, 30, 63, 127]
theorem arboristref42_within.tab14 : rtab .any (opsOf Tryd.f42 14) = arboristref42_within.T14 := by kernel_rfl
theorem arboristref42_within.bits14 : waitsOk arboristref42_within.T14.2 arboristref42_within.B14 = true := by kernel_rfl
theorem arboristref42_within.calls (k : Nat) : ∀ (A0_0 : Option Addr) (c0_0 : Nat) (l0_0 : List ByteArray) (A0_1 : Option Addr) (c0_1 : Nat) (l0_1 : List ByteArray) (A0_2 : Option Addr) (c0_2 : Nat) (l0_2 : List Int) (A0_3 : Option Addr) (c0_3 : Nat) (l0_3 : List (S58)) (A0_4 : Option Addr) (c0_4 : Nat) (l0_4 : List (S61)) (a1_0 : Int) (a1_1 : Int) (a1_2 : Int) (a1_3 : Int) (A1_4 : Option Addr) (c1_4 : Nat) (l1_4 : List (S46)) (a1_5 : ByteArray) (A1_6 : Option Addr) (c1_6 : Nat) (l1_6 : List (S26)) (a2 : Bool) (r : Bool) (w : World) (hr0_0 : Kd.C Kd.string w A0_0 l0_0.length l0_0) (hc0_0 : l0_0.length ≤ c0_0) (hr0_1 : Kd.C Kd.string w A0_1 l0_1.length l0_1) (hc0_1 : l0_1.length ≤ c0_1) (hr0_2 : Kd.C (Kd.int .i64) w A0_2 l0_2.length l0_2) (hc0_2 : l0_2.length ≤ c0_2) (hr0_3 : Kd.C k58 w A0_3 l0_3.length l0_3) (hc0_3 : l0_3.length ≤ c0_3) (hr0_4 : Kd.C k61 w A0_4 l0_4.length l0_4) (hc0_4 : l0_4.length ≤ c0_4) (hr1_4 : Kd.C k46 w A1_4 l1_4.length l1_4) (hc1_4 : l1_4.length ≤ c1_4) (hr1_6 : Kd.C k26 w A1_6 l1_6.length l1_6) (hc1_6 : l1_6.length ≤ c1_6) (h : arboristref42_within.f k l0_0 l0_1 l0_2 l0_3 l0_4 a1_0 a1_1 a1_2 a1_3 l1_4 a1_5 l1_6 a2 = some r),
  Calls Tryd.prog 42 #[.agg #[.slice A0_0 l0_0.length c0_0, .slice A0_1 l0_1.length c0_1, .slice A0_2 l0_2.length c0_2, .slice A0_3 l0_3.length c0_3, .slice A0_4 l0_4.length c0_4], .agg #[.int .i64 a1_0, .int .i64 a1_1, .int .i64 a1_2, .int .i64 a1_3, .slice A1_4 l1_4.length c1_4, .string a1_5, .slice A1_6 l1_6.length c1_6], .bool a2] w fun e w' => e = .returned (.bool r) ∧ Below w.heap.size w w' := by
 induction k using Nat.strongRecOn with
 | _ k ih =>
 intro A0_0 c0_0 l0_0 A0_1 c0_1 l0_1 A0_2 c0_2 l0_2 A0_3 c0_3 l0_3 A0_4 c0_4 l0_4 a1_0 a1_1 a1_2 a1_3 A1_4 c1_4 l1_4 a1_5 A1_6 c1_6 l1_6 a2 r w hr0_0 hc0_0 hr0_1 hc0_1 hr0_2 hc0_2 hr0_3 hc0_3 hr0_4 hc0_4 hr1_4 hc1_4 hr1_6 hc1_6 h
 cases k with
 | zero => exact absurd h (by simp [arboristref42_within.f])
 | succ k =>
 (simp only [arboristref42_within.f] at h); have hu40 := Tryd.underlying40; have hu26 := Tryd.underlying26; have HR0_0 := qM hr0_0; have HC0_0 := qM hc0_0; clear hr0_0 hc0_0; have HR0_1 := qM hr0_1; have HC0_1 := qM hc0_1; clear hr0_1 hc0_1; have HR0_2 := qM hr0_2; have HC0_2 := qM hc0_2; clear hr0_2 hc0_2; have HR0_3 := qM hr0_3; have HC0_3 := qM hc0_3; clear hr0_3 hc0_3; have HR0_4 := qM hr0_4; have HC0_4 := qM hc0_4; clear hr0_4 hc0_4; have HR1_4 := qM hr1_4; have HC1_4 := qM hc1_4; clear hr1_4 hc1_4; have HR1_6 := qM hr1_6; have HC1_6 := qM hc1_6; clear hr1_6 hc1_6; have HB := qM (Below.refl w.heap.size w); have H : (if a1_2 < 0 then (arboristref42_within.j0 k true l0_0 l0_1 l0_2 l0_3 l0_4 a1_0 a1_1 a1_2 a1_3 l1_4 a1_5 l1_6) else ((arboristref15_Is.f l0_0 l0_1 l0_2 l0_3 l0_4 a1_0).bind fun t255 => (if t255 = true then (if a1_0 = 1 then (arboristref42_within.j0 k true l0_0 l0_1 l0_2 l0_3 l0_4 a1_0 a1_1 a1_2 a1_3 l1_4 a1_5 l1_6) else (if a1_0 = (-1) then (arboristref42_within.j0 k true l0_0 l0_1 l0_2 l0_3 l0_4 a1_0 a1_1 a1_2 a1_3 l1_4 a1_5 l1_6) else (arboristref42_within.j0 k ((a1_0 == 0) != a2) l0_0 l0_1 l0_2 l0_3 l0_4 a1_0 a1_1 a1_2 a1_3 l1_4 a1_5 l1_6))) else (arboristref42_within.j0 k true l0_0 l0_1 l0_2 l0_3 l0_4 a1_0 a1_1 a1_2 a1_3 l1_4 a1_5 l1_6)))) = some r := h; clear h; have HC4 := qM H; clear H; (go_enter Tryd.func42, Tryd.ntmps42)
 go_upto_region 1 with (first | ((with_reducible refine gate_dst (N := 3) rfl ?_); (try (refine gate_guard (by rfl) ?_; dsimp only)); refine box_event ?hg (N := 3) ?hd (cs := #[.slice A0_0 l0_0.length c0_0, .slice A0_1 l0_1.length c0_1, .slice A0_2 l0_2.length c0_2, .slice A0_3 l0_3.length c0_3, .slice A0_4 l0_4.length c0_4]) (t := 40) ?hr ?_; (case hd | hg => rfl); (case hr => first | (go_simp; done) | (go_simp; rfl)); intro gb253 hg w5 hbox hb; have BK253 := qM (hbox); have GW253 := qM (qG hg); have GE253 := GW253; replace HB := qM (qP qF hb); clear hb hbox hg) | ((with_reducible refine gate_dst (N := 4) rfl ?_); (try (refine gate_guard (by rfl) ?_; dsimp only)); refine box_event ?hg (N := 4) ?hd (cs := #[.int .i64 a1_0, .int .i64 a1_1, .int .i64 a1_2, .int .i64 a1_3, .slice A1_4 l1_4.length c1_4, .string a1_5, .slice A1_6 l1_6.length c1_6]) (t := 26) ?hr ?_; (case hd | hg => rfl); (case hr => first | (go_simp; done) | (go_simp; rfl)); intro gb254 hg w6 hbox hb; have BK254 := qM (hbox); have GW254 := qM (qG hg); have GE254 := GW254; have NB253_254 := qM ((by rw [hg]; exact Nat.ne_of_lt (ql (g := gb253) qK) : gb253 ≠ gb254)); have NB254_253 := qM (Ne.symm NB253_254.out); replace BK253 := qM (qb (g := gb253) qK hb); replace HB := qM (qP qF hb); clear hb hbox hg))
 (try simp only [Act.put, List.setIfInBounds_toArray, List.set_cons_zero, List.set_cons_succ]); (go_cut [34] (fun v34 wc => ∃ (kq : Nat) (x34_3 : Bool), v34 = .bool x34_3 ∧ Aside0 (arboristref42_within.j0 kq x34_3 l0_0 l0_1 l0_2 l0_3 l0_4 a1_0 a1_1 a1_2 a1_3 l1_4 a1_5 l1_6 = some r) ∧ Aside0 (kq ≤ k) ∧ Aside0 (wc.heap[gb253]? = some (.cells #[(.slice A0_0 l0_0.length c0_0), (.slice A0_1 l0_1.length c0_1), (.slice A0_2 l0_2.length c0_2), (.slice A0_3 l0_3.length c0_3), (.slice A0_4 l0_4.length c0_4)] 40 (0, 0))) ∧ Aside0 (wc.heap[gb254]? = some (.cells #[.int .i64 a1_0, .int .i64 a1_1, .int .i64 a1_2, .int .i64 a1_3, (.slice A1_4 l1_4.length c1_4), .string a1_5, (.slice A1_6 l1_6.length c1_6)] 26 (0, 0))) ∧ Aside0 (Below w.heap.size w wc)))
 case first =>
  have H := HC4.out; clear HC4; have hnb8 := NB254_253.out; have hnc8 := NB253_254.out; have hz9 := bx7 BK254.out; (refine iteD ?_ ?_ H <;> clear H <;> intro c7b0 H)
  ·(first | rw [c7b0] | (simp only [i64_w, i32_w]; rw [c7b0]) | skip)
   have H' := qM H; clear H; go_wp2; go_meet
   case rel => exact ⟨_, (true), qV, H', ⟨by first | omega | exact Nat.le_refl _⟩, ⟨qK⟩, ⟨qK⟩, ⟨qF⟩⟩
  ·(first | rw [c7b0] | (simp only [i64_w, i32_w]; rw [c7b0]) | skip)
   replace H := Option.bind_eq_some_iff.mp H; obtain ⟨t255, A100, H⟩ := H; replace H : (if t255 = true then (if a1_0 = 1 then (arboristref42_within.j0 k true l0_0 l0_1 l0_2 l0_3 l0_4 a1_0 a1_1 a1_2 a1_3 l1_4 a1_5 l1_6) else (if a1_0 = (-1) then (arboristref42_within.j0 k true l0_0 l0_1 l0_2 l0_3 l0_4 a1_0 a1_1 a1_2 a1_3 l1_4 a1_5 l1_6) else (arboristref42_within.j0 k ((a1_0 == 0) != a2) l0_0 l0_1 l0_2 l0_3 l0_4 a1_0 a1_1 a1_2 a1_3 l1_4 a1_5 l1_6))) else (arboristref42_within.j0 k true l0_0 l0_1 l0_2 l0_3 l0_4 a1_0 a1_1 a1_2 a1_3 l1_4 a1_5 l1_6)) = some r := H; have A10 := qM A100; clear A100; have hz15 := bx5 BK253.out; (refine iteR ?_ ?_ H <;> clear H <;> intro c11 H)
   ·subst c11
    refine iteE ?_ ?_ H <;> clear H <;> intro c12b0 c12b1 H
    ·have H' := qM H
     clear H
     go_wp2_with (first | (go_at_call 62; (with_reducible refine (arboristref15_Is.calls _ _ l0_0 _ _ l0_1 _ _ l0_2 _ _ l0_3 _ _ l0_4 a1_0 true _ ?side1 ?side2 ?side3 ?side4 ?side5 ?side6 ?side7 ?side8 ?side9 ?side10 A10.out).mono ?_); (case side1 | side3 | side5 | side7 | side9 => exact qY); (case side2 | side4 | side6 | side8 | side10 => exact qO); rintro e w16 ⟨rfl, hb⟩; replace BK253 := qM (qb (g := gb253) qK hb); replace BK254 := qM (qb (g := gb254) qK hb); replace HB := qM (qP qF hb); (try clear hb); (try clear hb2); (try clear hk); (try clear hi); have hz17 := bx7 BK254.out))
     go_meet
     case rel => exact ⟨_, (true), qV, H', ⟨by first | omega | exact Nat.le_refl _⟩, ⟨qK⟩, ⟨qK⟩, ⟨qF⟩⟩
    ·intro c12
     refine iteE ?_ ?_ H <;> clear H <;> intro c18b0 c18b1 H
     ·have H' := qM H
      clear H
      go_wp2_with (first | (go_at_call 62; (with_reducible refine (arboristref15_Is.calls _ _ l0_0 _ _ l0_1 _ _ l0_2 _ _ l0_3 _ _ l0_4 a1_0 true _ ?side1 ?side2 ?side3 ?side4 ?side5 ?side6 ?side7 ?side8 ?side9 ?side10 A10.out).mono ?_); (case side1 | side3 | side5 | side7 | side9 => exact qY); (case side2 | side4 | side6 | side8 | side10 => exact qO); rintro e w22 ⟨rfl, hb⟩; replace BK253 := qM (qb (g := gb253) qK hb); replace BK254 := qM (qb (g := gb254) qK hb); replace HB := qM (qP qF hb); (try clear hb); (try clear hb2); (try clear hk); (try clear hi); have hz23 := bx7 BK254.out))
      go_meet
      case rel => exact ⟨_, (true), qV, H', ⟨by first | omega | exact Nat.le_refl _⟩, ⟨qK⟩, ⟨qK⟩, ⟨qF⟩⟩
     ·intro c18
      have H' := qM H; clear H
      go_wp2_with (first | (go_at_call 62; (with_reducible refine (arboristref15_Is.calls _ _ l0_0 _ _ l0_1 _ _ l0_2 _ _ l0_3 _ _ l0_4 a1_0 true _ ?side1 ?side2 ?side3 ?side4 ?side5 ?side6 ?side7 ?side8 ?side9 ?side10 A10.out).mono ?_); (case side1 | side3 | side5 | side7 | side9 => exact qY); (case side2 | side4 | side6 | side8 | side10 => exact qO); rintro e w27 ⟨rfl, hb⟩; replace BK253 := qM (qb (g := gb253) qK hb); replace BK254 := qM (qb (g := gb254) qK hb); replace HB := qM (qP qF hb); (try clear hb); (try clear hb2); (try clear hk); (try clear hi); have hz28 := bx7 BK254.out))
      go_meet
      case rel => exact ⟨_, (((a1_0 == 0) != a2)), qV, H', ⟨by first | omega | exact Nat.le_refl _⟩, ⟨qK⟩, ⟨qK⟩, ⟨qF⟩⟩
   ·replace c11 := Bool.eq_false_iff.mpr c11
    subst c11; have H' := qM H; clear H
    go_wp2_with (first | (go_at_call 62; (with_reducible refine (arboristref15_Is.calls _ _ l0_0 _ _ l0_1 _ _ l0_2 _ _ l0_3 _ _ l0_4 a1_0 false _ ?side1 ?side2 ?side3 ?side4 ?side5 ?side6 ?side7 ?side8 ?side9 ?side10 A10.out).mono ?_); (case side1 | side3 | side5 | side7 | side9 => exact qY); (case side2 | side4 | side6 | side8 | side10 => exact qO); rintro e w32 ⟨rfl, hb⟩; replace BK253 := qM (qb (g := gb253) qK hb); replace BK254 := qM (qb (g := gb254) qK hb); replace HB := qM (qP qF hb); (try clear hb); (try clear hb2); (try clear hk); (try clear hi)))
    go_meet
    case rel => exact ⟨_, (true), qV, H', ⟨by first | omega | exact Nat.le_refl _⟩, ⟨qK⟩, ⟨qK⟩, ⟨qF⟩⟩
 case rest =>
  clear HC4; (try clear c1); (try clear c2); (try clear p2); (try clear c4); (try clear c7); (try clear c7b0); (try clear c8); (try clear c11); (try clear c12); (try clear c12b0); (try clear c12b1); (try clear c13); (try clear c18); (try clear c18b0); (try clear c18b1); (try clear c19); (try clear c24); (try clear c29); (try clear hz15); (try clear hz17); (try clear hz23); (try clear hz28); (try clear hz9); obtain ⟨kq, x34_3, rfl, HA, HJ3, BK253, BK254, HB⟩ := hcut
  cases kq with
  | zero => exact absurd HA.out (by simp [arboristref42_within.j0])
  | succ kj3 =>
   have H := HA.out; clear HA; (simp only [arboristref42_within.j0] at H); (refine iteR ?_ ?_ H <;> clear H <;> intro c33 H)
   ·subst c33
    obtain rfl := Option.some.inj H; go_wp2; (go_ret); exact ⟨qE, qF⟩
   ·replace c33 := Bool.eq_false_iff.mpr c33
    subst c33; have hnb36 := NB254_253.out; have hnc36 := NB253_254.out; have hz37 := bx7 BK254.out; (refine iteR ?_ ?_ H <;> clear H <;> intro c34 H)
    ·have c34b0 : decide (0 ≤ a1_0) = true := decide_eq_true c34
     clear c34; have HC35 := qM H; clear H; (go_upto_region 4 with (fail)); (go_cut [46] (fun v46 wc => ∃ (kq : Nat) (x46_34 : Bool), v46 = .bool x46_34 ∧ Aside0 (arboristref42_within.j1 kq x46_34 l0_0 l0_1 l0_2 l0_3 l0_4 a1_0 a1_1 a1_2 a1_3 l1_4 a1_5 l1_6 = some r) ∧ Aside0 (kq ≤ kj3) ∧ Aside0 (wc.heap[gb253]? = some (.cells #[(.slice A0_0 l0_0.length c0_0), (.slice A0_1 l0_1.length c0_1), (.slice A0_2 l0_2.length c0_2), (.slice A0_3 l0_3.length c0_3), (.slice A0_4 l0_4.length c0_4)] 40 (0, 0))) ∧ Aside0 (wc.heap[gb254]? = some (.cells #[.int .i64 a1_0, .int .i64 a1_1, .int .i64 a1_2, .int .i64 a1_3, (.slice A1_4 l1_4.length c1_4), .string a1_5, (.slice A1_6 l1_6.length c1_6)] 26 (0, 0))) ∧ Aside0 (Below w.heap.size w wc)))
     case first =>
      have H := HC35.out; clear HC35; have hnb39 := NB254_253.out; have hnc39 := NB253_254.out; have hz40 := bx7 BK254.out; (refine iteE ?_ ?_ H <;> clear H <;> intro c38b0 c38b1 H)
      ·(first | rw [c38b0] | (simp only [i64_w, i32_w]; rw [c38b0]) | skip)
       have H' := qM H; clear H; go_wp2; go_meet
       case rel => exact ⟨_, (decide ((l1_6.length : Int) > 0)), qV, H', ⟨by have := HJ3.out; first | omega | exact Nat.le_refl _⟩, ⟨qK⟩, ⟨qK⟩, ⟨qF⟩⟩
      ·intro c38
       (first | rw [c38b0] | (simp only [i64_w, i32_w]; rw [c38b0]) | skip); have H' := qM H; clear H; go_wp2; go_meet
       case rel => exact ⟨_, (true), qV, H', ⟨by have := HJ3.out; first | omega | exact Nat.le_refl _⟩, ⟨qK⟩, ⟨qK⟩, ⟨qF⟩⟩
     case rest =>
      clear HC35; (try clear c1); (try clear c2); (try clear p2); (try clear c3); (try clear c4); (try clear c7); (try clear c7b0); (try clear c8); (try clear c11); (try clear c12); (try clear c12b0); (try clear c12b1); (try clear c13); (try clear c18); (try clear c18b0); (try clear c18b1); (try clear c19); (try clear c24); (try clear c29); (try clear c33); (try clear c34); (try clear c34b0); (try clear c36); (try clear c38); (try clear c38b0); (try clear c38b1); (try clear c39); (try clear c41); (try clear c42); (try clear hz15); (try clear hz17); (try clear hz23); (try clear hz28); (try clear hz37); (try clear hz40); (try clear hz9); (try clear p2); obtain ⟨kq, x46_34, rfl, HA, HJ34, BK253, BK254, HB⟩ := hcut
      cases kq with
      | zero => exact absurd HA.out (by simp [arboristref42_within.j1])
      | succ kj34 =>
       have H := HA.out; clear HA; (simp only [arboristref42_within.j1] at H); (refine iteR ?_ ?_ H <;> clear H <;> intro c43 H)
       ·subst c43
        obtain rfl := Option.some.inj H; go_wp2; (go_ret); exact ⟨qE, qF⟩
       ·replace c43 := Bool.eq_false_iff.mpr c43
        subst c43; have hnb46 := NB254_253.out; have hnc46 := NB253_254.out; have hz47 := bx7 BK254.out; (refine iteE ?_ ?_ H <;> clear H <;> intro c44b0 c44b1 H)
        ·refine iteE ?_ ?_ H <;> clear H <;> intro c45b0 c45b1 H
         ·obtain rfl := Option.some.inj H
          go_wp2; (go_ret); exact ⟨qE, qF⟩
         ·intro c45
          refine iteE ?_ ?_ H <;> clear H <;> intro c48b0 c48b1 H
          ·obtain rfl := Option.some.inj H
           go_wp2; (go_ret); exact ⟨qE, qF⟩
          ·intro c48
           (have c48b2 : ¬ (l1_4 = []) := fun h_ => c48 (by rw [h_]; rfl)); obtain rfl := Option.some.inj H; go_wp2; (go_ret); exact ⟨qE, qF⟩
        ·intro c44
         refine iteE ?_ ?_ H <;> clear H <;> intro c53b0 c53b1 H
         ·refine iteR ?_ ?_ H <;> clear H <;> intro c54 H
          ·have c54b0 : ((a1_5.toList == ([] : List UInt8)) == (a1_0 == 0)) = true := c54
           (have c54b0e : (a1_5.toList.isEmpty == (a1_0 == 0)) = true := by rw [show a1_5.toList.isEmpty = (a1_5.toList == ([] : List UInt8)) from by cases a1_5.toList <;> rfl]; exact c54b0); (try (have c54b1 : decide ((a1_5.toList == ([] : List UInt8)) = (a1_0 == 0)) = true := by simpa using c54)); (try (have c54b2 : ((a1_5.toList == ([] : List UInt8)) == (a1_0 == 0)) = true := by simpa using c54)); clear c54; replace H := Option.bind_eq_some_iff.mp H; obtain ⟨t256, A550, H⟩ := H; replace H : (some t256) = some r := H; have A55 := qM A550; clear A550; obtain rfl := Option.some.inj H; have hz58 := bx5 BK253.out
           go_wp2_with (first | (go_at_call 63; (with_reducible refine (arboristref42_lead.calls kj34 _ _ l0_0 _ _ l0_1 _ _ l0_2 _ _ l0_3 _ _ l0_4 _ _ l1_4 t256 _ ?side1 ?side2 ?side3 ?side4 ?side5 ?side6 ?side7 ?side8 ?side9 ?side10 ?side11 ?side12 A55.out).mono ?_); (case side1 | side3 | side5 | side7 | side9 | side11 => exact qY); (case side2 | side4 | side6 | side8 | side10 | side12 => exact qO); rintro e w59 ⟨rfl, hb⟩; replace BK253 := qM (qb (g := gb253) qK hb); replace BK254 := qM (qb (g := gb254) qK hb); replace HB := qM (qP qF hb); (try clear hb); (try clear hb2); (try clear hk); (try clear hi)))
           (go_ret); exact ⟨qE, qF⟩
          ·have c54b0 : ((a1_5.toList == ([] : List UInt8)) == (a1_0 == 0)) = false := by simpa using c54
           (have c54b0e : (a1_5.toList.isEmpty == (a1_0 == 0)) = false := by rw [show a1_5.toList.isEmpty = (a1_5.toList == ([] : List UInt8)) from by cases a1_5.toList <;> rfl]; exact c54b0); (try (have c54b1 : decide ((a1_5.toList == ([] : List UInt8)) = (a1_0 == 0)) = false := by simpa using c54)); (try (have c54b2 : ((a1_5.toList == ([] : List UInt8)) == (a1_0 == 0)) = false := by simpa using c54)); (try (have c54b3 : ¬ ((a1_5.toList == ([] : List UInt8)) = (a1_0 == 0)) := by simpa using c54)); clear c54; obtain rfl := Option.some.inj H; go_wp2; (go_ret); exact ⟨qE, qF⟩
         ·intro c53
          obtain rfl := Option.some.inj H; go_wp2; (go_ret); exact ⟨qE, qF⟩
    ·have c34b0 : decide (0 ≤ a1_0) = false := decide_eq_false c34
     clear c34; have HC64 := qM H; clear H; (go_upto_region 9 with (fail)); (go_cut [90] (fun v90 wc => ∃ (kq : Nat) (x90_63 : Bool), v90 = .bool x90_63 ∧ Aside0 (arboristref42_within.j2 kq x90_63 l0_0 l0_1 l0_2 l0_3 l0_4 a1_0 a1_1 a1_2 a1_3 l1_4 a1_5 l1_6 = some r) ∧ Aside0 (kq ≤ kj3) ∧ Aside0 (wc.heap[gb253]? = some (.cells #[(.slice A0_0 l0_0.length c0_0), (.slice A0_1 l0_1.length c0_1), (.slice A0_2 l0_2.length c0_2), (.slice A0_3 l0_3.length c0_3), (.slice A0_4 l0_4.length c0_4)] 40 (0, 0))) ∧ Aside0 (wc.heap[gb254]? = some (.cells #[.int .i64 a1_0, .int .i64 a1_1, .int .i64 a1_2, .int .i64 a1_3, (.slice A1_4 l1_4.length c1_4), .string a1_5, (.slice A1_6 l1_6.length c1_6)] 26 (0, 0))) ∧ Aside0 (Below w.heap.size w wc)))
     case first =>
      have H := HC64.out; clear HC64; have hnb68 := NB254_253.out; have hnc68 := NB253_254.out; have hz69 := bx7 BK254.out; (refine iteR ?_ ?_ H <;> clear H <;> intro c67 H)
      ·have c67b0 : decide (0 < (l1_4.length : Int)) = true := decide_eq_true c67
       have c67b1 : decide (0 < l1_4.length) = true := decide_eq_true (by omega); clear c67; (first | rw [c67b0] | (simp only [i64_w, i32_w]; rw [c67b0]) | skip); have H' := qM H; clear H; go_wp2; go_meet
       case rel => exact ⟨_, (true), qV, H', ⟨by have := HJ3.out; first | omega | exact Nat.le_refl _⟩, ⟨qK⟩, ⟨qK⟩, ⟨qF⟩⟩
      ·have c67b0 : decide (0 < (l1_4.length : Int)) = false := decide_eq_false c67
       have c67b1 : decide (0 < l1_4.length) = false := decide_eq_false (by omega); clear c67; (first | rw [c67b0] | (simp only [i64_w, i32_w]; rw [c67b0]) | skip); have H' := qM H; clear H; go_wp2; go_meet
       case rel => exact ⟨_, ((a1_5.toList != ([] : List UInt8))), (by first | rfl | (simp; done) | (simp [*]; done) | (simp; exact (by intro l; cases l <;> rfl : ∀ l : List UInt8, l.isEmpty = !(l != [])) _)), H', ⟨by have := HJ3.out; first | omega | exact Nat.le_refl _⟩, ⟨qK⟩, ⟨qK⟩, ⟨qF⟩⟩
     case rest =>
      clear HC64; (try clear c1); (try clear c2); (try clear p2); (try clear c3); (try clear c4); (try clear c5); (try clear c6); (try clear c7); (try clear c7b0); (try clear c8); (try clear c11); (try clear c12); (try clear c12b0); (try clear c12b1); (try clear c13); (try clear c18); (try clear c18b0); (try clear c18b1); (try clear c19); (try clear c24); (try clear c29); (try clear c33); (try clear c34); (try clear c34b0); (try clear c36); (try clear c38); (try clear c38b0); (try clear c38b1); (try clear c39); (try clear c41); (try clear c42); (try clear c43); (try clear c44); (try clear c44b0); (try clear c44b1); (try clear c45); (try clear c45b0); (try clear c45b1); (try clear c46); (try clear c48); (try clear c48b0); (try clear c48b1); (try clear c48b2); (try clear c49); (try clear c51); (try clear c53); (try clear c53b0); (try clear c53b1); (try clear c54); (try clear c54b0); (try clear c54b1); (try clear c54b2); (try clear c56); (try clear c60); (try clear c62); (try clear c65); (try clear c67); (try clear c67b0); (try clear c67b1); (try clear c68); (try clear c70); (try clear hz15); (try clear hz17); (try clear hz23); (try clear hz28); (try clear hz37); (try clear hz40); (try clear hz47); (try clear hz58); (try clear hz37); (try clear hz69); (try clear hz9); (try clear p2); obtain ⟨kq, x90_63, rfl, HA, HJ63, BK253, BK254, HB⟩ := hcut
      cases kq with
      | zero => exact absurd HA.out (by simp [arboristref42_within.j2])
      | succ kj63 =>
       have H := HA.out; clear HA; (simp only [arboristref42_within.j2] at H); (refine iteR ?_ ?_ H <;> clear H <;> intro c72 H)
       ·subst c72
        obtain rfl := Option.some.inj H; go_wp2; (go_ret); exact ⟨qE, qF⟩
       ·replace c72 := Bool.eq_false_iff.mpr c72
        subst c72; have H' := qM H; clear H; go_wp2; (go_loopg [7] kj63 (fun kq v7 w' => ∃ (x7_3 : Int), v7 = .int .i64 x7_3 ∧ Aside0 (arboristref42_within.l0 kq x7_3 l0_0 l0_1 l0_2 l0_3 l0_4 a1_0 a1_1 a1_2 a1_3 l1_4 a1_5 l1_6 = some r) ∧ Aside0 (kq ≤ kj63) ∧ Aside0 (w'.heap[gb253]? = some (.cells #[(.slice A0_0 l0_0.length c0_0), (.slice A0_1 l0_1.length c0_1), (.slice A0_2 l0_2.length c0_2), (.slice A0_3 l0_3.length c0_3), (.slice A0_4 l0_4.length c0_4)] 40 (0, 0))) ∧ Aside0 (w'.heap[gb254]? = some (.cells #[.int .i64 a1_0, .int .i64 a1_1, .int .i64 a1_2, .int .i64 a1_3, (.slice A1_4 l1_4.length c1_4), .string a1_5, (.slice A1_6 l1_6.length c1_6)] 26 (0, 0))) ∧ Aside0 (Below w.heap.size w w')))
        case atStart => exact ⟨(0), qV, H', ⟨Nat.le_refl _⟩, ⟨qK⟩, ⟨qK⟩, ⟨qF⟩⟩
        case round =>
         (clear H'); (try clear c1); (try clear c2); (try clear p2); (try clear c3); (try clear c4); (try clear c5); (try clear c6); (try clear c7); (try clear c7b0); (try clear c8); (try clear c11); (try clear c12); (try clear c12b0); (try clear c12b1); (try clear c13); (try clear c18); (try clear c18b0); (try clear c18b1); (try clear c19); (try clear c24); (try clear c29); (try clear c33); (try clear c34); (try clear c34b0); (try clear c36); (try clear c38); (try clear c38b0); (try clear c38b1); (try clear c39); (try clear c41); (try clear c42); (try clear c43); (try clear c44); (try clear c44b0); (try clear c44b1); (try clear c45); (try clear c45b0); (try clear c45b1); (try clear c46); (try clear c48); (try clear c48b0); (try clear c48b1); (try clear c48b2); (try clear c49); (try clear c51); (try clear c53); (try clear c53b0); (try clear c53b1); (try clear c54); (try clear c54b0); (try clear c54b1); (try clear c54b2); (try clear c56); (try clear c60); (try clear c62); (try clear c65); (try clear c67); (try clear c67b0); (try clear c67b1); (try clear c68); (try clear c70); (try clear c72); (try clear hz15); (try clear hz17); (try clear hz23); (try clear hz28); (try clear hz37); (try clear hz40); (try clear hz47); (try clear hz58); (try clear hz37); (try clear hz69); (try clear hz9); (try clear p2); obtain ⟨x7_3, rfl, HA, HK3, BK253, BK254, HB⟩ := hrel
         cases gk with
         | zero => exact absurd HA.out (by simp [arboristref42_within.l0])
         | succ k3 =>
          have H := HA.out; clear HA; (simp only [arboristref42_within.l0] at H); have hnb77 := NB254_253.out; have hnc77 := NB253_254.out; have hz78 := bx7 BK254.out; (refine iteD ?_ ?_ H <;> clear H <;> intro c73b0 H)
          ·refine iteN ?_ H
           clear H; (intro c74b0 H); replace H := Option.bind_eq_some_iff.mp H; obtain ⟨t258, A750, H⟩ := H; replace H : (if t258 = true then (arboristref42_within.l0 k3 (wrap64 (x7_3 + 1)) l0_0 l0_1 l0_2 l0_3 l0_4 a1_0 a1_1 a1_2 a1_3 l1_4 a1_5 l1_6) else (some false)) = some r := H; have A75 := qM A750; clear A750; (refine iteR ?_ ?_ H <;> clear H <;> intro c76 H)
           ·subst c76
            have H' := qM H; clear H; (try go_wp2); replace BK253 := qM (qd BK253.out); replace BK254 := qM (qd BK254.out); replace HB := qM (qD HB.out); have p257 : 0 ≤ (x7_3 : Int) := qo qX; have q257 : x7_3 < (l1_6.length : Int) := qo qX; obtain ⟨ad257, A257_4, c257_4, A257_6, c257_6, e257, hx257_0, hx257_1, hx257_2, hx257_3, hx257_4, hx257_5, hx257_6, hl257_4, hi257_4, hl257_6, hi257_6⟩ := at_T26 HR1_6.out x7_3 p257 q257; have hw257_6 := hx257_6; have hw257_5 := hx257_5; have hw257_4 := hx257_4; have hw257_3 := hx257_3; have hw257_2 := hx257_2; have hw257_1 := hx257_1; have hw257_0 := hx257_0
            cases e257
            replace hx257_0 := qv HB.out hx257_0; replace hx257_1 := qv HB.out hx257_1; replace hx257_2 := qv HB.out hx257_2; replace hx257_3 := qv HB.out hx257_3; replace hx257_4 := qv HB.out hx257_4; replace hx257_5 := qv HB.out hx257_5; replace hx257_6 := qv HB.out hx257_6; have HR257_4 := qM hi257_4; have HC257_4 := qM hl257_4; clear hi257_4 hl257_4; have HR257_6 := qM hi257_6; have HC257_6 := qM hl257_6; clear hi257_6 hl257_6; replace p257 := eq_true p257; replace q257 := eq_true q257
            refine start_ (n := 8) (S := fun w' => w'.cell? ⟨gb253, 0, none⟩ = some (.slice A0_0 l0_0.length c0_0) ∧ w'.cell? ⟨gb253, 1, none⟩ = some (.slice A0_1 l0_1.length c0_1) ∧ w'.cell? ⟨gb253, 2, none⟩ = some (.slice A0_2 l0_2.length c0_2) ∧ w'.cell? ⟨gb253, 3, none⟩ = some (.slice A0_3 l0_3.length c0_3) ∧ w'.cell? ⟨gb253, 4, none⟩ = some (.slice A0_4 l0_4.length c0_4) ∧ w'.cell? ⟨gb254, 0, none⟩ = some (.int .i64 a1_0) ∧ w'.cell? ⟨gb254, 1, none⟩ = some (.int .i64 a1_1) ∧ w'.cell? ⟨gb254, 2, none⟩ = some (.int .i64 a1_2) ∧ w'.cell? ⟨gb254, 3, none⟩ = some (.int .i64 a1_3) ∧ w'.cell? ⟨gb254, 4, none⟩ = some (.slice A1_4 l1_4.length c1_4) ∧ w'.cell? ⟨gb254, 5, none⟩ = some (.string a1_5) ∧ w'.cell? ⟨gb254, 6, none⟩ = some (.slice (some ad257) l1_6.length c1_6) ∧ w'.cell? (ad257.add ((x7_3).toNat * 7)) = some (.int .i64 ((rd_T26 l1_6 x7_3).f0)) ∧ w'.cell? ⟨(ad257.add ((x7_3).toNat * 7)).block, (ad257.add ((x7_3).toNat * 7)).off + 1, none⟩ = some (.int .i64 ((rd_T26 l1_6 x7_3).f1)) ∧ w'.cell? ⟨(ad257.add ((x7_3).toNat * 7)).block, (ad257.add ((x7_3).toNat * 7)).off + 2, none⟩ = some (.int .i64 ((rd_T26 l1_6 x7_3).f2)) ∧ w'.cell? ⟨(ad257.add ((x7_3).toNat * 7)).block, (ad257.add ((x7_3).toNat * 7)).off + 3, none⟩ = some (.int .i64 ((rd_T26 l1_6 x7_3).f3)) ∧ w'.cell? ⟨(ad257.add ((x7_3).toNat * 7)).block, (ad257.add ((x7_3).toNat * 7)).off + 4, none⟩ = some (.slice A257_4 ((rd_T26 l1_6 x7_3).f4).length c257_4) ∧ w'.cell? ⟨(ad257.add ((x7_3).toNat * 7)).block, (ad257.add ((x7_3).toNat * 7)).off + 5, none⟩ = some (.string ((rd_T26 l1_6 x7_3).f5)) ∧ w'.cell? ⟨(ad257.add ((x7_3).toNat * 7)).block, (ad257.add ((x7_3).toNat * 7)).off + 6, none⟩ = some (.slice A257_6 ((rd_T26 l1_6 x7_3).f6).length c257_6)) (ds := []) (Array.replicate 8 false) (by kernel_rfl) rfl rfl (by and_intros <;> first | exact qW | exact qv HB.out (by assumption)) (fun hHeld => ?_); refine with_tabW arboristref42_within.tab14 arboristref42_within.bits14 (fun HT_ HW_ => ?_)
            (generalize wr.drew = w79 at BK253 BK254 HB HR257_4 HR257_6 hx257_0 hx257_1 hx257_2 hx257_3 hx257_4 hx257_5 hx257_6 hHeld ⊢); refine Ord.enter 8 0 [.p 1 99, .p 3 101, .t 0 98, .t 2 100, .p 4 102, .t 5 103] (by kernel_rfl) ?_; (repeat ((first | (show Ord (.p _ _ :: _) _; refine Ord.pure (v := ?_) (a' := ?_) HT_ ?_ ?_ ?_; rotate_left; (intro w'; go_simp; with_reducible rfl)) | (show Ord (.t _ _ :: _) _; refine Ord.take (v := ?_) (a' := ?_) HT_ HW_ ?_ hHeld ?_ ?_; rotate_left; (intro w' hSw; (try dsimp only at hSw); go_simp; with_reducible rfl))); rotate_left; (simp only [Act.put, List.setIfInBounds_toArray, List.set_cons_zero, List.set_cons_succ, i64_w, i32_w]; rfl))); refine Ord.done (fl 8 63) (by kernel_rfl) ?_; refine one_ (i := 6) (N := some 104) (fl 8 127) rfl rfl (one_of HT_.out (by kernel_rfl)) (by decide) (fun K hK => ?_); refine goes_ Tryd.func42 (by kernel_rfl) rfl #[.agg #[.slice A0_0 l0_0.length c0_0, .slice A0_1 l0_1.length c0_1, .slice A0_2 l0_2.length c0_2, .slice A0_3 l0_3.length c0_3, .slice A0_4 l0_4.length c0_4], .agg #[.int .i64 ((rd_T26 l1_6 x7_3).f0), .int .i64 ((rd_T26 l1_6 x7_3).f1), .int .i64 ((rd_T26 l1_6 x7_3).f2), .int .i64 ((rd_T26 l1_6 x7_3).f3), .slice A257_4 ((rd_T26 l1_6 x7_3).f4).length c257_4, .string ((rd_T26 l1_6 x7_3).f5), .slice A257_6 ((rd_T26 l1_6 x7_3).f6).length c257_6], .bool false] (by rfl) rfl rfl (by (try simp only [List.map_toArray, List.map_cons, List.map_nil]); first | done | rfl | (simp only [List.length_drop, List.length_take]; rfl)) ?_; (with_reducible refine (ih k3 (by have := HJ3.out; have := HJ63.out; have := HK3.out; omega) _ _ l0_0 _ _ l0_1 _ _ l0_2 _ _ l0_3 _ _ l0_4 ((rd_T26 l1_6 x7_3).f0) ((rd_T26 l1_6 x7_3).f1) ((rd_T26 l1_6 x7_3).f2) ((rd_T26 l1_6 x7_3).f3) _ _ ((rd_T26 l1_6 x7_3).f4) ((rd_T26 l1_6 x7_3).f5) _ _ ((rd_T26 l1_6 x7_3).f6) false true _ ?side1 ?side2 ?side3 ?side4 ?side5 ?side6 ?side7 ?side8 ?side9 ?side10 ?side11 ?side12 ?side13 ?side14 A75.out).mono ?_); (case side1 | side3 | side5 => exact qY); (case side2 | side4 => exact qO)
            (case side7 | side9 | side11 | side13 => exact qY); (case side6 | side8 | side10 | side12 | side14 => exact qO); (rintro e w80 ⟨rfl, hb⟩); refine ⟨_, rfl, ?_⟩; replace BK253 := qM (qb (g := gb253) qK hb); replace BK254 := qM (qb (g := gb254) qK hb); replace HB := qM (qP qF hb); (try clear hb); (try clear hb2); (try clear hk); (try clear hi)
            refine hK.out _ _ (by and_intros <;> first | exact qW | exact qv HB.out (by assumption)) (fun hHeld => ?_)
            clear hK K; refine norm_ (a' := ?_) ?_ ?_; rotate_left; (show Act.put _ (some 104) _ = _; simp only [Act.put, List.setIfInBounds_toArray, List.set_cons_zero, List.set_cons_succ, i64_w, i32_w]; rfl); refine pure_ (i := 7) (N := some 105) (v := ?_) (a' := ?_) (fl 8 255) rfl rfl (any_of HT_.out (by kernel_rfl)) (fun _ _ _ h => h) (Or.inl ⟨by rfl, ?_⟩) ?_ ?_; rotate_left; (intro w'; go_simp; with_reducible rfl); rotate_left; (simp only [Act.put, List.setIfInBounds_toArray, List.set_cons_zero, List.set_cons_succ, i64_w, i32_w]; rfl); refine done_ (done_of HT_.out (by kernel_rfl)) ?_; (try go_wp2); (go_roundg k3)
            case measure => have := HJ3.out; have := HJ63.out; have := HK3.out; omega
            case rel => exact ⟨(wrap64 (x7_3 + 1)), qV, H', ⟨by have := HJ3.out; have := HJ63.out; have := HK3.out; omega⟩, ⟨qK⟩, ⟨qK⟩, ⟨qF⟩⟩
           ·replace c76 := Bool.eq_false_iff.mpr c76
            subst c76; obtain rfl := Option.some.inj H; (try go_wp2); replace BK253 := qM (qd BK253.out); replace BK254 := qM (qd BK254.out); replace HB := qM (qD HB.out); have p257 : 0 ≤ (x7_3 : Int) := qo qX; have q257 : x7_3 < (l1_6.length : Int) := qo qX; obtain ⟨ad257, A257_4, c257_4, A257_6, c257_6, e257, hx257_0, hx257_1, hx257_2, hx257_3, hx257_4, hx257_5, hx257_6, hl257_4, hi257_4, hl257_6, hi257_6⟩ := at_T26 HR1_6.out x7_3 p257 q257; have hw257_6 := hx257_6; have hw257_5 := hx257_5; have hw257_4 := hx257_4; have hw257_3 := hx257_3; have hw257_2 := hx257_2; have hw257_1 := hx257_1; have hw257_0 := hx257_0
            cases e257
            replace hx257_0 := qv HB.out hx257_0; replace hx257_1 := qv HB.out hx257_1; replace hx257_2 := qv HB.out hx257_2; replace hx257_3 := qv HB.out hx257_3; replace hx257_4 := qv HB.out hx257_4; replace hx257_5 := qv HB.out hx257_5; replace hx257_6 := qv HB.out hx257_6; have HR257_4 := qM hi257_4; have HC257_4 := qM hl257_4; clear hi257_4 hl257_4; have HR257_6 := qM hi257_6; have HC257_6 := qM hl257_6; clear hi257_6 hl257_6; replace p257 := eq_true p257; replace q257 := eq_true q257
            refine start_ (n := 8) (S := fun w' => w'.cell? ⟨gb253, 0, none⟩ = some (.slice A0_0 l0_0.length c0_0) ∧ w'.cell? ⟨gb253, 1, none⟩ = some (.slice A0_1 l0_1.length c0_1) ∧ w'.cell? ⟨gb253, 2, none⟩ = some (.slice A0_2 l0_2.length c0_2) ∧ w'.cell? ⟨gb253, 3, none⟩ = some (.slice A0_3 l0_3.length c0_3) ∧ w'.cell? ⟨gb253, 4, none⟩ = some (.slice A0_4 l0_4.length c0_4) ∧ w'.cell? ⟨gb254, 0, none⟩ = some (.int .i64 a1_0) ∧ w'.cell? ⟨gb254, 1, none⟩ = some (.int .i64 a1_1) ∧ w'.cell? ⟨gb254, 2, none⟩ = some (.int .i64 a1_2) ∧ w'.cell? ⟨gb254, 3, none⟩ = some (.int .i64 a1_3) ∧ w'.cell? ⟨gb254, 4, none⟩ = some (.slice A1_4 l1_4.length c1_4) ∧ w'.cell? ⟨gb254, 5, none⟩ = some (.string a1_5) ∧ w'.cell? ⟨gb254, 6, none⟩ = some (.slice (some ad257) l1_6.length c1_6) ∧ w'.cell? (ad257.add ((x7_3).toNat * 7)) = some (.int .i64 ((rd_T26 l1_6 x7_3).f0)) ∧ w'.cell? ⟨(ad257.add ((x7_3).toNat * 7)).block, (ad257.add ((x7_3).toNat * 7)).off + 1, none⟩ = some (.int .i64 ((rd_T26 l1_6 x7_3).f1)) ∧ w'.cell? ⟨(ad257.add ((x7_3).toNat * 7)).block, (ad257.add ((x7_3).toNat * 7)).off + 2, none⟩ = some (.int .i64 ((rd_T26 l1_6 x7_3).f2)) ∧ w'.cell? ⟨(ad257.add ((x7_3).toNat * 7)).block, (ad257.add ((x7_3).toNat * 7)).off + 3, none⟩ = some (.int .i64 ((rd_T26 l1_6 x7_3).f3)) ∧ w'.cell? ⟨(ad257.add ((x7_3).toNat * 7)).block, (ad257.add ((x7_3).toNat * 7)).off + 4, none⟩ = some (.slice A257_4 ((rd_T26 l1_6 x7_3).f4).length c257_4) ∧ w'.cell? ⟨(ad257.add ((x7_3).toNat * 7)).block, (ad257.add ((x7_3).toNat * 7)).off + 5, none⟩ = some (.string ((rd_T26 l1_6 x7_3).f5)) ∧ w'.cell? ⟨(ad257.add ((x7_3).toNat * 7)).block, (ad257.add ((x7_3).toNat * 7)).off + 6, none⟩ = some (.slice A257_6 ((rd_T26 l1_6 x7_3).f6).length c257_6)) (ds := []) (Array.replicate 8 false) (by kernel_rfl) rfl rfl (by and_intros <;> first | exact qW | exact qv HB.out (by assumption)) (fun hHeld => ?_); refine with_tabW arboristref42_within.tab14 arboristref42_within.bits14 (fun HT_ HW_ => ?_)
            (generalize wr.drew = w83 at BK253 BK254 HB HR257_4 HR257_6 hx257_0 hx257_1 hx257_2 hx257_3 hx257_4 hx257_5 hx257_6 hHeld ⊢); refine Ord.enter 8 0 [.p 1 99, .p 3 101, .t 0 98, .t 2 100, .p 4 102, .t 5 103] (by kernel_rfl) ?_; (repeat ((first | (show Ord (.p _ _ :: _) _; refine Ord.pure (v := ?_) (a' := ?_) HT_ ?_ ?_ ?_; rotate_left; (intro w'; go_simp; with_reducible rfl)) | (show Ord (.t _ _ :: _) _; refine Ord.take (v := ?_) (a' := ?_) HT_ HW_ ?_ hHeld ?_ ?_; rotate_left; (intro w' hSw; (try dsimp only at hSw); go_simp; with_reducible rfl))); rotate_left; (simp only [Act.put, List.setIfInBounds_toArray, List.set_cons_zero, List.set_cons_succ, i64_w, i32_w]; rfl))); refine Ord.done (fl 8 63) (by kernel_rfl) ?_; refine one_ (i := 6) (N := some 104) (fl 8 127) rfl rfl (one_of HT_.out (by kernel_rfl)) (by decide) (fun K hK => ?_); refine goes_ Tryd.func42 (by kernel_rfl) rfl #[.agg #[.slice A0_0 l0_0.length c0_0, .slice A0_1 l0_1.length c0_1, .slice A0_2 l0_2.length c0_2, .slice A0_3 l0_3.length c0_3, .slice A0_4 l0_4.length c0_4], .agg #[.int .i64 ((rd_T26 l1_6 x7_3).f0), .int .i64 ((rd_T26 l1_6 x7_3).f1), .int .i64 ((rd_T26 l1_6 x7_3).f2), .int .i64 ((rd_T26 l1_6 x7_3).f3), .slice A257_4 ((rd_T26 l1_6 x7_3).f4).length c257_4, .string ((rd_T26 l1_6 x7_3).f5), .slice A257_6 ((rd_T26 l1_6 x7_3).f6).length c257_6], .bool false] (by rfl) rfl rfl (by (try simp only [List.map_toArray, List.map_cons, List.map_nil]); first | done | rfl | (simp only [List.length_drop, List.length_take]; rfl)) ?_; (with_reducible refine (ih k3 (by have := HJ3.out; have := HJ63.out; have := HK3.out; omega) _ _ l0_0 _ _ l0_1 _ _ l0_2 _ _ l0_3 _ _ l0_4 ((rd_T26 l1_6 x7_3).f0) ((rd_T26 l1_6 x7_3).f1) ((rd_T26 l1_6 x7_3).f2) ((rd_T26 l1_6 x7_3).f3) _ _ ((rd_T26 l1_6 x7_3).f4) ((rd_T26 l1_6 x7_3).f5) _ _ ((rd_T26 l1_6 x7_3).f6) false false _ ?side1 ?side2 ?side3 ?side4 ?side5 ?side6 ?side7 ?side8 ?side9 ?side10 ?side11 ?side12 ?side13 ?side14 A75.out).mono ?_); (case side1 | side3 | side5 => exact qY); (case side2 | side4 => exact qO)
            (case side7 | side9 | side11 | side13 => exact qY); (case side6 | side8 | side10 | side12 | side14 => exact qO); (rintro e w84 ⟨rfl, hb⟩); refine ⟨_, rfl, ?_⟩; replace BK253 := qM (qb (g := gb253) qK hb); replace BK254 := qM (qb (g := gb254) qK hb); replace HB := qM (qP qF hb); (try clear hb); (try clear hb2); (try clear hk); (try clear hi)
            refine hK.out _ _ (by and_intros <;> first | exact qW | exact qv HB.out (by assumption)) (fun hHeld => ?_)
            clear hK K; refine norm_ (a' := ?_) ?_ ?_; rotate_left; (show Act.put _ (some 104) _ = _; simp only [Act.put, List.setIfInBounds_toArray, List.set_cons_zero, List.set_cons_succ, i64_w, i32_w]; rfl); refine pure_ (i := 7) (N := some 105) (v := ?_) (a' := ?_) (fl 8 255) rfl rfl (any_of HT_.out (by kernel_rfl)) (fun _ _ _ h => h) (Or.inl ⟨by rfl, ?_⟩) ?_ ?_; rotate_left; (intro w'; go_simp; with_reducible rfl); rotate_left; (simp only [Act.put, List.setIfInBounds_toArray, List.set_cons_zero, List.set_cons_succ, i64_w, i32_w]; rfl); refine done_ (done_of HT_.out (by kernel_rfl)) ?_; (try go_wp2); (go_ret); exact ⟨qE, qF⟩
          ·refine iteE ?_ ?_ H <;> clear H <;> intro c85b0 c85b1 H
           ·obtain rfl := Option.some.inj H
            go_wp2; (go_ret); exact ⟨qE, qF⟩
           ·intro c85
            refine iteE ?_ ?_ H <;> clear H <;> intro c88b0 c88b1 H
            ·replace H := Option.bind_eq_some_iff.mp H
             obtain ⟨t259, A890, H⟩ := H; replace H : (some t259) = some r := H; have A89 := qM A890; clear A890; obtain rfl := Option.some.inj H; have hz92 := bx5 BK253.out
             go_wp2_with (first | (go_at_call 64; (with_reducible refine (arboristref42_byRule.calls k3 _ _ l0_0 _ _ l0_1 _ _ l0_2 _ _ l0_3 _ _ l0_4 a1_0 a1_1 a1_2 a1_3 _ _ l1_4 a1_5 _ _ l1_6 t259 _ ?side1 ?side2 ?side3 ?side4 ?side5 ?side6 ?side7 ?side8 ?side9 ?side10 ?side11 ?side12 ?side13 ?side14 A89.out).mono ?_); (case side1 | side3 | side5 | side7 | side9 | side11 | side13 => exact qY); (case side2 | side4 | side6 | side8 | side10 | side12 | side14 => exact qO); rintro e w93 ⟨rfl, hb⟩; replace BK253 := qM (qb (g := gb253) qK hb); replace BK254 := qM (qb (g := gb254) qK hb); replace HB := qM (qP qF hb); (try clear hb); (try clear hb2); (try clear hk); (try clear hi)))
             (go_ret); exact ⟨qE, qF⟩
            ·intro c88
             obtain rfl := Option.some.inj H; go_wp2; (go_ret); exact ⟨qE, qF⟩
end
end Go.Proofs.YtphmgaijkdflnaaDoor.H
end
