/- For every grammar and tree that the guards let in and whose bulk lies within the bound, CstRight returns true: Right and Show of package cst agree with the reference. -/
import Derived.Deep.RegionHeld3
import Derived.Laws.RangeString
import Derived.Laws.RangeAny
import Derived.Test.YtphmgaijkdflnaaDoorRows
import Derived.Test.YtphmgaijkdflnaaDoorTie
import Derived.Test.YtphmgaijkdflnaaDoorCards
import Derived.Deep.DeepHandedRow
import Derived.ProofKit
import Derived.SizedLaws
import Derived.OpenShut
import Derived.ShutString
import Derived.ChangeOld
import Derived.Below
import Derived.SevenTiedAt
import Derived.WalkKit
import Derived.Stop.LaidErr
import Derived.Test.YtphmgaijkdflnaaDoorZr6
section
namespace Go.Proofs.YtphmgaijkdflnaaDoor.H
open Go.RowKit
set_option linter.unusedVariables false
set_option linter.unusedSimpArgs false
set_option maxHeartbeats 8000000
set_option maxRecDepth 100000
section
open Go.Proofs.YtphmgaijkdflnaaDoorW.PrintWords Go.Proofs.YtphmgaijkdflnaaDoorW.PrintLast Go.Proofs.YtphmgaijkdflnaaDoorW.PrintMore
open Go.Maps
def escOf (s : ByteArray) (x : S87) : List UInt8 :=
 if x.f0 = 65533 ∧ x.f2 = 1 then [92, 120, 123] ++ hexL 14 (s.get! x.f1.toNat).toNat [] ++ [125]
 else if x.f0 = 10 then [92, 110] else if x.f0 = 13 then [92, 114] else if x.f0 = 9 then [92, 116]
 else if x.f0 = 34 ∨ x.f0 = 92 then [92, x.f0.toNat.toUInt8]
 else if x.f0 < 32 ∨ x.f0 > 126 then [92, 117, 123] ++ hexL 14 x.f0.toNat [] ++ [125]
 else [x.f0.toNat.toUInt8]
def quoteB (s : ByteArray) (rs : List S87) : List UInt8 := 34 :: rs.flatMap (escOf s)
def text_Quote.f (a0 : ByteArray) : Option ByteArray := if a0.size ≤ 4398046511104 then some (⟨(quoteB a0 (runesL a0)).toArray⟩ ++ ⟨#[34]⟩) else none
theorem hexL_len (f : Nat) : ∀ u acc, (hexL f u acc).length ≤ f + 1 + acc.length := by
 induction f with
 | zero => intro u acc; simp [hexL]; omega
 | succ f ih =>
  intro u acc
  simp only [hexL]
  split
  ·have := ih (u / 16) (hexD (u % 16) :: acc); simp at this; omega
  ·simp; omega
theorem escOf_len (s : ByteArray) (x : S87) : (escOf s x).length ≤ 20 := by
 have h1 := hexL_len 14 (s.get! x.f1.toNat).toNat []
 have h2 := hexL_len 14 x.f0.toNat []
 simp only [List.length_nil] at h1 h2
 unfold escOf
 repeat' split
 all_goals simp
 all_goals omega
theorem flatMap_esc_len (s : ByteArray) (rs : List S87) : (rs.flatMap (escOf s)).length ≤ 20 * rs.length := by
 induction rs with
 | nil => simp
 | cons x r ih => have := escOf_len s x; simp only [List.flatMap_cons, List.length_append, List.length_cons]; omega
theorem runesFrom_mem (s : ByteArray) (f : Nat) : ∀ pos, ∀ x ∈ runesFrom s f pos, (0 ≤ x.f0 ∧ x.f0 ≤ 1114111) ∧ 0 ≤ x.f1 ∧ x.f1 < s.size := by
 induction f with
 | zero => intro pos x hx; simp [runesFrom] at hx
 | succ f ih =>
  intro pos x hx
  simp only [runesFrom] at hx
  split at hx
  ·rename_i hp
   rcases List.mem_cons.1 hx with rfl | hx
   ·have := Lib.rune_le s pos
    exact ⟨⟨by simp, by simp; omega⟩, by simp, by simp; omega⟩
   ·exact ih _ x hx
  ·simp at hx
theorem runesFrom_len (s : ByteArray) (f : Nat) : ∀ pos, (runesFrom s f pos).length ≤ s.size - pos := by
 induction f with
 | zero => intro pos; simp [runesFrom]
 | succ f ih =>
  intro pos
  simp only [runesFrom]
  split
  ·have := ih (pos + (Utf8.decode s pos).2); have := rune_w_pos s pos; simp only [List.length_cons]; omega
  ·simp
theorem R_others {α : Type} {d : Kd α} {e base g : Nat} {ok : Nat → Prop} {w W : World} {v : Value} {xs : List α} (h : d.R e w base ok v xs) (hE : d.E = []) (hk : Lib.OthersKept 5 (some g) w W) (hne : e ≠ 5) (hg : g < base) : d.R e W base ok v xs :=
 Kd.R_mono (Kd.R_step (Kd.R_bound h) (fun k hk1 _ => by
  obtain ⟨_, h2, _, q, hq, cs, hc⟩ := hk1
  rw [hE] at hq
  simp only [List.mem_singleton] at hq
  subst hq
  exact (hk k _ hc (fun e_ => by injection e_ with e_; omega) (fun c' fz' e_ => hne (by injection e_))).trans hc.symm)) (fun _ hk1 => hk1.1)
theorem hex_any (n : Int) (h0 : 0 ≤ n) (h1 : n < 2147483648) (w : World) (hgw : GW w) : Calls Tryd.prog 68 #[.int .i32 n] w fun e w' => ∃ hx : ByteArray, e = .returned (.string hx) ∧ Aside0 (hx.data.toList = hexL 14 n.toNat []) ∧ hx.size ≤ 15 ∧ Below w.heap.size w w' := by
 have h := hexL_len 14 n.toNat []
 simp only [List.length_nil] at h
 refine (text_hex.calls n ⟨(hexL 14 n.toNat []).toArray⟩ w hgw (by unfold text_hex.f; rw [if_pos ⟨h0, h1⟩])).mono ?_
 rintro e w' ⟨rfl, hb⟩
 exact ⟨_, rfl, ⟨by simp⟩, by simp [ByteArray.size]; omega, hb⟩
theorem write_len {acc : List UInt8} {s : ByteArray} (h : acc.length ≤ 140737488355000) (hs : s.size ≤ 100) : acc.length + s.size ≤ 140737488355328 := by omega
def QRel (s : ByteArray) (rs : List S87) (w : World) (v vi : Value) (wr : World) : Prop :=
 ∃ k : Nat, k ≤ rs.length ∧ vi = .int .i64 (k : Int) ∧ Bd w.heap.size (quoteB s (rs.take k)) wr ∧ Below w.heap.size w wr ∧ Kd.R k87 87 wr (w.heap.size + 1) (fun _ => True) v rs
theorem QRel.next {s : ByteArray} {rs : List S87} {w W : World} {v : Value} {k : Nat} (hk : k < rs.length) {acc : List UInt8} (hb : Bd w.heap.size acc W) (he : acc = quoteB s (rs.take k) ++ escOf s (rs[k])) (hB : Below w.heap.size w W)
  (hR : Kd.R k87 87 W (w.heap.size + 1) (fun _ => True) v rs) : QRel s rs w v (.int .i64 ((k : Int) + 1)) W := by
 refine ⟨k + 1, hk, by push_cast; rfl, ?_, hB, hR⟩
 rw [he] at hb
 rw [List.take_succ_eq_append_getElem hk]
 have e : quoteB s (rs.take k ++ [rs[k]]) = quoteB s (rs.take k) ++ escOf s rs[k] := by
  unfold quoteB
  rw [List.flatMap_append]
  simp only [List.flatMap_cons, List.flatMap_nil, List.append_nil, List.cons_append]
 rw [e]
 exact hb
theorem text_Quote.calls (a0 : ByteArray) (r : ByteArray) (w : World) (hgw : GW w) (h : text_Quote.f a0 = some r) :
  Calls Tryd.prog 44 #[.string a0] w fun e w' => e = .returned (.string r) ∧ Below w.heap.size w w' := by
 unfold text_Quote.f at h
 split at h
 case isFalse => cases h
 rename_i hs
 have HP := Aside0.mk (Option.some.inj h)
 have HS := Aside0.mk hs
 have HGW := Aside0.mk hgw
 have HRF := Aside0.mk (show text_Runes.f a0 = some (runesL a0) by unfold text_Runes.f; rw [if_pos hs])
 have HRL := Aside0.mk (show (runesL a0).length ≤ 4398046511104 from Nat.le_trans (runesFrom_len a0 a0.size 0) (by omega))
 have HRM := Aside0.mk (fun x hx => runesFrom_mem a0 a0.size 0 x hx : ∀ x ∈ runesL a0, (0 ≤ x.f0 ∧ x.f0 ≤ 1114111) ∧ 0 ≤ x.f1 ∧ x.f1 < a0.size)
 have HB0 := Aside0.mk (Bd.new w)
 clear h hs hgw
 obtain ⟨rs, hrs⟩ : ∃ rs, runesL a0 = rs := ⟨_, rfl⟩
 rw [hrs] at HP HRF HRL HRM
 clear hrs
 go_enter Tryd.func44, Tryd.ntmps44
 go_wp2_with (first
  | (go_at_call 66; refine (HB0.out.byte 34 (by simp)).mono ?_; rintro e w1 ⟨rfl, hb1, hB1, hO1⟩; have HB1 := Aside0.mk hb1; have HL1 := Aside0.mk ((below_alloc (Below.refl w.heap.size w) _).trans hB1); clear hb1 hB1 hO1)
  | (go_at_call 67; refine (text_Runes.calls a0 rs _ (HGW.out.below HL1.out) HRF.out).mono ?_; rintro e w2 ⟨v, rfl, hR, hb⟩; obtain ⟨A, c, rfl⟩ := Kd.R_slice hR; have HB2 := Aside0.mk (HB1.out.below hb); have HR2 := Aside0.mk (Kd.R_lower hR (show w.heap.size + 1 ≤ w1.heap.size from HB1.out.lt)); have HL2 := Aside0.mk (below_step HL1.out hb); clear hR hb))
 go_loopw [10] (fun v10 wr => QRel a0 rs w (.slice A rs.length c) v10 wr) (fun v10 _ => rs.length - (intOf v10).toNat)
 case atStart => exact ⟨0, Nat.zero_le _, rfl, HB2.out, HL2.out, HR2.out⟩
 case round =>
  obtain ⟨k, hk, rfl, hb, hB, hR⟩ := hrel
  have hn := HRL.out
  by_cases hlt : k < rs.length
  ·have hm := HRM.out _ (List.getElem_mem hlt)
   obtain ⟨ad, hA, hx0, hx1, hx2⟩ := at_T87 (Kd.R_reads' hR).2.2 (k : Int) (by omega) (by omega)
   have hrd : rd_T87 rs (k : Int) = rs[k] := by simp [rd_T87, List.getD_eq_getElem?_getD, List.getElem?_eq_getElem hlt]
   rw [hrd] at hx0 hx1 hx2
   simp only [Int.toNat_natCast] at hx0 hx1 hx2
   cases hA
   obtain ⟨⟨f0, f1, f2⟩, hx⟩ : ∃ x, rs[k] = x := ⟨_, rfl⟩
   rw [hx] at hx0 hx1 hx2 hm
   dsimp only at hx0 hx1 hx2 hm
   obtain ⟨⟨m0, m1⟩, m2, m3⟩ := hm
   have HX := Aside0.mk hx
   have HB := Aside0.mk hb
   have HL := Aside0.mk hB
   have HR := Aside0.mk hR
   have hq : (quoteB a0 (rs.take k)).length ≤ 140737488355000 := by
    have h1 := flatMap_esc_len a0 (rs.take k)
    have h2 : (rs.take k).length ≤ k := List.length_take_le _ _
    simp only [quoteB, List.length_cons]; omega
   have HQ := Aside0.mk hq
   clear hx hb hB hR hrd hq
   by_cases t1 : f0 = 65533
   ·subst t1
    by_cases t2 : f2 = 1
    ·subst t2
     have hby : (a0.get! f1.toNat) = a0[f1.toNat]'(by omega) := get_at a0 f1.toNat (by omega)
     have HBY := Aside0.mk hby
     obtain ⟨c8, hc8⟩ : ∃ c8 : UInt8, (a0[f1.toNat]'(by omega)) = c8 := ⟨_, rfl⟩
     rw [hc8] at HBY
     have hc8' : ∀ h, a0[f1.toNat]'h = c8 := fun _ => hc8
     clear hc8 hby
     have h8 := c8.toNat_lt
     have hwb : wrap32 (c8.toNat : Int) = (c8.toNat : Int) := by unfold wrap32; omega
     go_wp2_with (first
      | (go_at_call 68; refine (hex_any _ ?h1 ?h2 _ ?h3).mono ?_; (case h1 => omega); (case h2 => omega); (case h3 => exact HGW.out.below (below_alloc HL.out _)); rintro e w1 ⟨hx, rfl, HX1, hx2, hb1⟩; have HB1 := Aside0.mk ((HB.out.alloc _).below hb1); have HL1 := Aside0.mk (below_step (below_alloc HL.out _) hb1); have HR1 := Aside0.mk (Kd.R_below (Kd.R_alloc HR.out _) hb1); clear hb1; have hz1 : (9223372036854775807 < 3 + hx.size) = False := eq_false (by omega); have hz2 : (9223372036854775807 < 3 + hx.size + 1) = False := eq_false (by omega))
      | (go_at_call 45; refine (Bd.write HB1.out _ ?h4).mono ?_; (case h4 => exact write_len HQ.out (by first | decide | (simp only [ByteArray.size_append]; show 3 + hx.size + 1 ≤ 100; omega))); rintro e w2 ⟨rfl, hb2, hB2, hO2⟩; have HB2 := Aside0.mk hb2; have HL2 := Aside0.mk (HL1.out.trans hB2); have HR2 := Aside0.mk (R_others HR1.out rfl hO2 (by decide) (Nat.lt_succ_self _)); clear hb2 hB2 hO2))
     go_roundw
     case rel => exact QRel.next hlt HB2.out (by rw [HX.out]; simp [escOf, HX1.out, HBY.out]) HL2.out HR2.out
     case measure => simp [intOf]; omega
    ·have t2b : (f2 == 1) = false := by simpa using t2
     go_wp2_with (first
      | (go_at_call 68; refine (hex_any _ ?h1 ?h2 _ ?h3).mono ?_; (case h1 => omega); (case h2 => omega); (case h3 => exact HGW.out.below (below_alloc HL.out _)); rintro e w1 ⟨hx, rfl, HX1, hx2, hb1⟩; have HB1 := Aside0.mk ((HB.out.alloc _).below hb1); have HL1 := Aside0.mk (below_step (below_alloc HL.out _) hb1); have HR1 := Aside0.mk (Kd.R_below (Kd.R_alloc HR.out _) hb1); clear hb1; have hz1 : (9223372036854775807 < 3 + hx.size) = False := eq_false (by omega); have hz2 : (9223372036854775807 < 3 + hx.size + 1) = False := eq_false (by omega))
      | (go_at_call 45; refine (Bd.write HB1.out _ ?h4).mono ?_; (case h4 => exact write_len HQ.out (by first | decide | (simp only [ByteArray.size_append]; show 3 + hx.size + 1 ≤ 100; omega))); rintro e w2 ⟨rfl, hb2, hB2, hO2⟩; have HB2 := Aside0.mk hb2; have HL2 := Aside0.mk (HL1.out.trans hB2); have HR2 := Aside0.mk (R_others HR1.out rfl hO2 (by decide) (Nat.lt_succ_self _)); clear hb2 hB2 hO2))
     go_roundw
     case rel => exact QRel.next hlt HB2.out (by rw [HX.out]; simp [escOf, HX1.out, t2]) HL2.out HR2.out
     case measure => simp [intOf]; omega
   have t1b : (f0 == 65533) = false := by simpa using t1
   by_cases t10 : f0 = 10
   ·subst t10
    go_wp2_with (first
     | (go_at_call 45; refine (Bd.write (HB.out.alloc _) _ ?h4).mono ?_; (case h4 => exact write_len HQ.out (by first | decide | (simp only [ByteArray.size_append]; show 3 + hx.size + 1 ≤ 100; omega))); rintro e w1 ⟨rfl, hb1, hB1, hO1⟩; have HB1 := Aside0.mk hb1; have HL1 := Aside0.mk ((below_alloc HL.out _).trans hB1); have HR1 := Aside0.mk (R_others (Kd.R_alloc HR.out _) rfl hO1 (by decide) (Nat.lt_succ_self _)); clear hb1 hB1 hO1))
    go_roundw
    case rel => exact QRel.next hlt HB1.out (by rw [HX.out]; simp [escOf]) HL1.out HR1.out
    case measure => simp [intOf]; omega
   have t10b : (f0 == 10) = false := by simpa using t10
   by_cases t13 : f0 = 13
   ·subst t13
    go_wp2_with (first
     | (go_at_call 45; refine (Bd.write (HB.out.alloc _) _ ?h4).mono ?_; (case h4 => exact write_len HQ.out (by first | decide | (simp only [ByteArray.size_append]; show 3 + hx.size + 1 ≤ 100; omega))); rintro e w1 ⟨rfl, hb1, hB1, hO1⟩; have HB1 := Aside0.mk hb1; have HL1 := Aside0.mk ((below_alloc HL.out _).trans hB1); have HR1 := Aside0.mk (R_others (Kd.R_alloc HR.out _) rfl hO1 (by decide) (Nat.lt_succ_self _)); clear hb1 hB1 hO1))
    go_roundw
    case rel => exact QRel.next hlt HB1.out (by rw [HX.out]; simp [escOf]) HL1.out HR1.out
    case measure => simp [intOf]; omega
   have t13b : (f0 == 13) = false := by simpa using t13
   by_cases t9 : f0 = 9
   ·subst t9
    go_wp2_with (first
     | (go_at_call 45; refine (Bd.write (HB.out.alloc _) _ ?h4).mono ?_; (case h4 => exact write_len HQ.out (by first | decide | (simp only [ByteArray.size_append]; show 3 + hx.size + 1 ≤ 100; omega))); rintro e w1 ⟨rfl, hb1, hB1, hO1⟩; have HB1 := Aside0.mk hb1; have HL1 := Aside0.mk ((below_alloc HL.out _).trans hB1); have HR1 := Aside0.mk (R_others (Kd.R_alloc HR.out _) rfl hO1 (by decide) (Nat.lt_succ_self _)); clear hb1 hB1 hO1))
    go_roundw
    case rel => exact QRel.next hlt HB1.out (by rw [HX.out]; simp [escOf]) HL1.out HR1.out
    case measure => simp [intOf]; omega
   have t9b : (f0 == 9) = false := by simpa using t9
   by_cases t34 : f0 = 34
   ·subst t34
    have tk0 : True := trivial
    go_wp2_with (first
     | (have _u := tk0; clear tk0; go_at_call 66; refine (Bd.byte (HB.out.alloc _) 92 ?h4).mono ?_; (case h4 => have := HQ.out; first | omega | (simp only [List.length_append, List.length_cons, List.length_nil]; omega)); rintro e w1 ⟨rfl, hb1, hB1, hO1⟩; have hOx := Aside0.mk hO1; have HB1 := Aside0.mk hb1; have HL1 := Aside0.mk ((below_alloc HL.out _).trans hB1); have HR1 := Aside0.mk (R_others (Kd.R_alloc HR.out _) rfl hO1 (by decide) (Nat.lt_succ_self _)); clear hb1 hB1 hO1; have hcz := keep_blk (g := w.heap.size) hOx.out (blk_new wr _) (by have := HB.out.lt; omega) (by decide); have hcz0 := (blk_cell hcz 0).trans rfl; have hcz2 := (blk_cell hcz 2).trans rfl; clear hcz)
     | (have _u := hOx; go_at_call 66; refine (Bd.byte HB1.out 34 ?h5).mono ?_; (case h5 => have := HQ.out; first | omega | (simp only [List.length_append, List.length_cons, List.length_nil]; omega)); rintro e w2 ⟨rfl, hb2, hB2, hO2⟩; have HB2 := Aside0.mk hb2; have HL2 := Aside0.mk (HL1.out.trans hB2); have HR2 := Aside0.mk (R_others HR1.out rfl hO2 (by decide) (Nat.lt_succ_self _)); clear hb2 hB2 hO2; clear hOx))
    go_roundw
    case rel => exact QRel.next hlt HB2.out (by rw [HX.out]; simp [escOf]) HL2.out HR2.out
    case measure => simp [intOf]; omega
   have t34b : (f0 == 34) = false := by simpa using t34
   by_cases t92 : f0 = 92
   ·subst t92
    have tk0 : True := trivial
    go_wp2_with (first
     | (have _u := tk0; clear tk0; go_at_call 66; refine (Bd.byte (HB.out.alloc _) 92 ?h4).mono ?_; (case h4 => have := HQ.out; first | omega | (simp only [List.length_append, List.length_cons, List.length_nil]; omega)); rintro e w1 ⟨rfl, hb1, hB1, hO1⟩; have hOx := Aside0.mk hO1; have HB1 := Aside0.mk hb1; have HL1 := Aside0.mk ((below_alloc HL.out _).trans hB1); have HR1 := Aside0.mk (R_others (Kd.R_alloc HR.out _) rfl hO1 (by decide) (Nat.lt_succ_self _)); clear hb1 hB1 hO1; have hcz := keep_blk (g := w.heap.size) hOx.out (blk_new wr _) (by have := HB.out.lt; omega) (by decide); have hcz0 := (blk_cell hcz 0).trans rfl; have hcz2 := (blk_cell hcz 2).trans rfl; clear hcz)
     | (have _u := hOx; go_at_call 66; refine (Bd.byte HB1.out 92 ?h5).mono ?_; (case h5 => have := HQ.out; first | omega | (simp only [List.length_append, List.length_cons, List.length_nil]; omega)); rintro e w2 ⟨rfl, hb2, hB2, hO2⟩; have HB2 := Aside0.mk hb2; have HL2 := Aside0.mk (HL1.out.trans hB2); have HR2 := Aside0.mk (R_others HR1.out rfl hO2 (by decide) (Nat.lt_succ_self _)); clear hb2 hB2 hO2; clear hOx))
    go_roundw
    case rel => exact QRel.next hlt HB2.out (by rw [HX.out]; simp [escOf]) HL2.out HR2.out
    case measure => simp [intOf]; omega
   have t92b : (f0 == 92) = false := by simpa using t92
   by_cases l32 : f0 < 32
   ·have d1 : decide (f0 < 32) = true := by simpa using l32
    go_wp2_with (first
     | (go_at_call 68; refine (hex_any _ ?h1 ?h2 _ ?h3).mono ?_; (case h1 => omega); (case h2 => omega); (case h3 => exact HGW.out.below (below_alloc HL.out _)); rintro e w1 ⟨hx, rfl, HX1, hx2, hb1⟩; have HB1 := Aside0.mk ((HB.out.alloc _).below hb1); have HL1 := Aside0.mk (below_step (below_alloc HL.out _) hb1); have HR1 := Aside0.mk (Kd.R_below (Kd.R_alloc HR.out _) hb1); clear hb1; have hz1 : (9223372036854775807 < 3 + hx.size) = False := eq_false (by omega); have hz2 : (9223372036854775807 < 3 + hx.size + 1) = False := eq_false (by omega))
     | (go_at_call 45; refine (Bd.write HB1.out _ ?h4).mono ?_; (case h4 => exact write_len HQ.out (by first | decide | (simp only [ByteArray.size_append]; show 3 + hx.size + 1 ≤ 100; omega))); rintro e w2 ⟨rfl, hb2, hB2, hO2⟩; have HB2 := Aside0.mk hb2; have HL2 := Aside0.mk (HL1.out.trans hB2); have HR2 := Aside0.mk (R_others HR1.out rfl hO2 (by decide) (Nat.lt_succ_self _)); clear hb2 hB2 hO2))
    go_roundw
    case rel => exact QRel.next hlt HB2.out (by rw [HX.out]; rw [escOf, if_neg (by simp [t1]), if_neg t10, if_neg t13, if_neg t9, if_neg (by simp [t34, t92]), if_pos (by simp; omega)]; simp [HX1.out]) HL2.out HR2.out
    case measure => simp [intOf]; omega
   by_cases g126 : f0 > 126
   ·have d1 : decide (f0 < 32) = false := by simp; omega
    have d2 : decide (f0 > 126) = true := by simp; omega
    go_wp2_with (first
     | (go_at_call 68; refine (hex_any _ ?h1 ?h2 _ ?h3).mono ?_; (case h1 => omega); (case h2 => omega); (case h3 => exact HGW.out.below (below_alloc HL.out _)); rintro e w1 ⟨hx, rfl, HX1, hx2, hb1⟩; have HB1 := Aside0.mk ((HB.out.alloc _).below hb1); have HL1 := Aside0.mk (below_step (below_alloc HL.out _) hb1); have HR1 := Aside0.mk (Kd.R_below (Kd.R_alloc HR.out _) hb1); clear hb1; have hz1 : (9223372036854775807 < 3 + hx.size) = False := eq_false (by omega); have hz2 : (9223372036854775807 < 3 + hx.size + 1) = False := eq_false (by omega))
     | (go_at_call 45; refine (Bd.write HB1.out _ ?h4).mono ?_; (case h4 => exact write_len HQ.out (by first | decide | (simp only [ByteArray.size_append]; show 3 + hx.size + 1 ≤ 100; omega))); rintro e w2 ⟨rfl, hb2, hB2, hO2⟩; have HB2 := Aside0.mk hb2; have HL2 := Aside0.mk (HL1.out.trans hB2); have HR2 := Aside0.mk (R_others HR1.out rfl hO2 (by decide) (Nat.lt_succ_self _)); clear hb2 hB2 hO2))
    go_roundw
    case rel => exact QRel.next hlt HB2.out (by rw [HX.out]; rw [escOf, if_neg (by simp [t1]), if_neg t10, if_neg t13, if_neg t9, if_neg (by simp [t34, t92]), if_pos (by simp; omega)]; simp [HX1.out]) HL2.out HR2.out
    case measure => simp [intOf]; omega
   have d1 : decide (f0 < 32) = false := by simp; omega
   have d2 : decide (f0 > 126) = false := by simp; omega
   have h8 : f0 % 256 = f0 := by omega
   obtain ⟨c8, rfl⟩ : ∃ c8 : UInt8, f0 = (c8.toNat : Int) := ⟨f0.toNat.toUInt8, by simp [Nat.toUInt8]; omega⟩
   go_wp2_with (first
    | (go_at_call 66; refine (Bd.byte (HB.out.alloc _) c8 ?h4).mono ?_; (case h4 => have := HQ.out; first | omega | (simp only [List.length_append, List.length_cons, List.length_nil]; omega)); rintro e w1 ⟨rfl, hb1, hB1, hO1⟩; have HB1 := Aside0.mk hb1; have HL1 := Aside0.mk ((below_alloc HL.out _).trans hB1); have HR1 := Aside0.mk (R_others (Kd.R_alloc HR.out _) rfl hO1 (by decide) (Nat.lt_succ_self _)); clear hb1 hB1 hO1))
   go_roundw
   case rel => exact QRel.next hlt HB1.out (by rw [HX.out]; rw [escOf, if_neg (by simp [t1]), if_neg t10, if_neg t13, if_neg t9, if_neg (by simp [t34, t92]), if_neg (by simp; omega)]; simp) HL1.out HR1.out
   case measure => simp [intOf]; omega
  ·have hke : k = rs.length := by omega
   subst hke
   rw [List.take_of_length_le (Nat.le_refl _)] at hb
   have HB := Aside0.mk hb
   have HL := Aside0.mk hB
   clear hb hB hR
   have hq : ((⟨(quoteB a0 rs).toArray⟩ : ByteArray)).size ≤ 140737488355000 := by
    have h1 := flatMap_esc_len a0 rs
    simp only [quoteB, ByteArray.size, List.size_toArray, List.length_cons]; omega
   have hq2 : (9223372036854775807 < ((⟨(quoteB a0 rs).toArray⟩ : ByteArray)).size + 1) = False := by simp; omega
   have hq3 : (9223372036854775807 < (quoteB a0 rs).length + 1) = False := eq_false (by have := hq; simp only [ByteArray.size, List.size_toArray] at this; omega)
   go_wp2_with (go_at_call 46; refine (HB.out.string).mono ?_; rintro e w3 ⟨rfl, hB3⟩; have HL3 := Aside0.mk (HL.out.trans hB3); clear hB3)
   go_ret
   exact ⟨by rw [← HP.out]; rfl, HL3.out⟩
end
section
open Go.Shelf Go.Proofs.YtphmgaijkdflnaaDoorW.PrintWords Go.Proofs.YtphmgaijkdflnaaDoorW.PrintLast Go.Proofs.YtphmgaijkdflnaaDoorW.PrintMore
open Go.Maps
def bput (acc : List UInt8) (s : ByteArray) : Option (List UInt8) := if acc.length + s.size ≤ 140737488355328 then some (acc ++ s.data.toList) else none
theorem bput.some {acc o : List UInt8} {s : ByteArray} (h : bput acc s = some o) : acc.length + s.size ≤ 140737488355328 ∧ o = acc ++ s.data.toList := by
 unfold bput at h
 split at h
 ·rename_i q; exact ⟨q, (Option.some.inj h).symm⟩
 ·cases h
section
variable (l0_0 l0_1 : List ByteArray) (l0_2 : List Int) (l0_3 : List S58) (l0_4 : List S61)
mutual
def showN : S26 → Option ByteArray
 | ⟨f0, f1, f2, f3, f4, f5, ks⟩ => if f0 = 0 then some ⟨#[36, 101, 110, 100]⟩ else (grammar_Sym.f l0_0 l0_1 l0_2 l0_3 l0_4 f0).bind fun name =>
  if 0 < f0 then (if f3 = 1 then (if name.size ≤ 140737488355327 then some ((⟨#[33]⟩ : ByteArray) ++ name) else none) else text_Quote.f f5)
  else (bput (if f3 = 2 then [40, 33] else [40]) name).bind fun a => (showL a ks).bind fun b => (bput b ⟨#[41]⟩).map fun l => ⟨l.toArray⟩
def showL : List UInt8 → List S26 → Option (List UInt8)
 | acc, [] => some acc
 | acc, k :: r => (showN k).bind fun t => (bput acc ((⟨#[32]⟩ : ByteArray) ++ t)).bind fun a => showL a r
end
theorem showN_eq (x : S26) : showN l0_0 l0_1 l0_2 l0_3 l0_4 x = if x.f0 = 0 then some ⟨#[36, 101, 110, 100]⟩ else (grammar_Sym.f l0_0 l0_1 l0_2 l0_3 l0_4 x.f0).bind fun name =>
  if 0 < x.f0 then (if x.f3 = 1 then (if name.size ≤ 140737488355327 then some ((⟨#[33]⟩ : ByteArray) ++ name) else none) else text_Quote.f x.f5)
  else (bput (if x.f3 = 2 then [40, 33] else [40]) name).bind fun a => (showL l0_0 l0_1 l0_2 l0_3 l0_4 a x.f6).bind fun b => (bput b ⟨#[41]⟩).map fun l => ⟨l.toArray⟩ := by
 cases x; simp only [showN]
def cst_Show.f (a1_0 : Int) (a1_1 : Int) (a1_2 : Int) (a1_3 : Int) (l1_4 : List S46) (a1_5 : ByteArray) (l1_6 : List S26) : Option ByteArray := showN l0_0 l0_1 l0_2 l0_3 l0_4 ⟨a1_0, a1_1, a1_2, a1_3, l1_4, a1_5, l1_6⟩
end
section
variable {w W : World} {A0 : Option Addr} {c0 : Nat} {l0_0 : List ByteArray} {A1 : Option Addr} {c1 : Nat} {l0_1 : List ByteArray} {A2 : Option Addr} {c2 : Nat} {l0_2 : List Int} {A3 : Option Addr} {c3 : Nat} {l0_3 : List S58} {A4 : Option Addr} {c4 : Nat} {l0_4 : List S61}
theorem InG.sym {s : Int} {r : ByteArray} (G : InG W A0 c0 l0_0 A1 c1 l0_1 A2 c2 l0_2 A3 c3 l0_3 A4 c4 l0_4) (h : grammar_Sym.f l0_0 l0_1 l0_2 l0_3 l0_4 s = some r) :
  Calls Tryd.prog 43 #[.agg #[.slice A0 l0_0.length c0, .slice A1 l0_1.length c1, .slice A2 l0_2.length c2, .slice A3 l0_3.length c3, .slice A4 l0_4.length c4], .int .i64 s] W fun e w' => e = .returned (.string r) ∧ Below W.heap.size W w' :=
 grammar_Sym.calls _ _ _ _ _ _ _ _ _ _ _ _ _ _ _ s r W G.r0 G.h0 G.r1 G.h1 G.r2 G.h2 G.r3 G.h3 G.r4 G.h4 h
end
theorem kc2 {w W : World} {p : Addr} {v : Value} (hb : Below w.heap.size w W) (h : w.cell? p = some v) : W.cell? p = some v := (hb.cell (World.block_lt_of_cell? w _ h)).trans h
structure SV (w : World) (A0 : Option Addr) (c0 : Nat) (l0_0 : List ByteArray) (A1 : Option Addr) (c1 : Nat) (l0_1 : List ByteArray) (A2 : Option Addr) (c2 : Nat) (l0_2 : List Int) (A3 : Option Addr) (c3 : Nat) (l0_3 : List S58) (A4 : Option Addr) (c4 : Nat) (l0_4 : List S61) (x : S26) (B4 : Option Addr) (d4 : Nat) (B6 : Option Addr) (d6 : Nat) (W : World) : Prop where
 B : Below w.heap.size w W
 g : GB W w.heap.size A0 c0 l0_0 A1 c1 l0_1 A2 c2 l0_2 A3 c3 l0_3 A4 c4 l0_4
 n : W.heap[w.heap.size + 1]? = some (.cells #[.int .i64 x.f0, .int .i64 x.f1, .int .i64 x.f2, .int .i64 x.f3, .slice B4 x.f4.length d4, .string x.f5, .slice B6 x.f6.length d6] 26 (0, 0))
section
variable {w W W' : World} {A0 : Option Addr} {c0 : Nat} {l0_0 : List ByteArray} {A1 : Option Addr} {c1 : Nat} {l0_1 : List ByteArray} {A2 : Option Addr} {c2 : Nat} {l0_2 : List Int} {A3 : Option Addr} {c3 : Nat} {l0_3 : List S58} {A4 : Option Addr} {c4 : Nat} {l0_4 : List S61} {x : S26} {B4 : Option Addr} {d4 : Nat} {B6 : Option Addr} {d6 : Nat}
theorem SV.below (h : SV w A0 c0 l0_0 A1 c1 l0_1 A2 c2 l0_2 A3 c3 l0_3 A4 c4 l0_4 x B4 d4 B6 d6 W) (hb : Below W.heap.size W W') : SV w A0 c0 l0_0 A1 c1 l0_1 A2 c2 l0_2 A3 c3 l0_3 A4 c4 l0_4 x B4 d4 B6 d6 W' :=
 ⟨h.B.trans (hb.mono h.B.size), h.g.below hb, blk_below h.n hb⟩
theorem SV.size (h : SV w A0 c0 l0_0 A1 c1 l0_1 A2 c2 l0_2 A3 c3 l0_3 A4 c4 l0_4 x B4 d4 B6 d6 W) : w.heap.size + 1 < W.heap.size := (Array.getElem?_eq_some_iff.1 h.n).1
theorem SV.write {bb : Nat} {acc : List UInt8} (h : SV w A0 c0 l0_0 A1 c1 l0_1 A2 c2 l0_2 A3 c3 l0_3 A4 c4 l0_4 x B4 d4 B6 d6 W) (hd : Bd bb acc W) (hw : w.heap.size + 1 < bb) (s : ByteArray) (hlen : acc.length + s.size ≤ 140737488355328) :
  Calls Tryd.prog 45 #[.pointer (some ⟨bb, 0, none⟩), .string s] W fun e w' => e = .returned (.tuple #[.int .i64 s.size, .nilIface]) ∧ SV w A0 c0 l0_0 A1 c1 l0_1 A2 c2 l0_2 A3 c3 l0_3 A4 c4 l0_4 x B4 d4 B6 d6 w' ∧ Bd bb (acc ++ s.data.toList) w' := by
 refine (hd.write s hlen).mono ?_
 rintro e w' ⟨rfl, hd2, hbl, hk⟩
 exact ⟨rfl, ⟨h.B.trans (hbl.mono (by omega)), (hbl.block _ (by omega)).trans h.g, (hbl.block _ hw).trans h.n⟩, hd2⟩
theorem SV.start : SV w A0 c0 l0_0 A1 c1 l0_1 A2 c2 l0_2 A3 c3 l0_3 A4 c4 l0_4 x B4 d4 B6 d6 ((w.alloc (.cells #[.slice A0 l0_0.length c0, .slice A1 l0_1.length c1, .slice A2 l0_2.length c2, .slice A3 l0_3.length c3, .slice A4 l0_4.length c4] 40)).alloc (.cells #[.int .i64 x.f0, .int .i64 x.f1, .int .i64 x.f2, .int .i64 x.f3, .slice B4 x.f4.length d4, .string x.f5, .slice B6 x.f6.length d6] 26)) := by
 refine ⟨below_alloc (below_alloc (Below.refl _ _) _) _, blk_alloc (blk_new w _) _, ?_⟩
 have := blk_new (w.alloc (.cells #[.slice A0 l0_0.length c0, .slice A1 l0_1.length c1, .slice A2 l0_2.length c2, .slice A3 l0_3.length c3, .slice A4 l0_4.length c4] 40)) (.cells #[.int .i64 x.f0, .int .i64 x.f1, .int .i64 x.f2, .int .i64 x.f3, .slice B4 x.f4.length d4, .string x.f5, .slice B6 x.f6.length d6] 26)
 simpa using this
theorem SV.cells (h : SV w A0 c0 l0_0 A1 c1 l0_1 A2 c2 l0_2 A3 c3 l0_3 A4 c4 l0_4 x B4 d4 B6 d6 W) : W.cell? ⟨w.heap.size + 1, 0, none⟩ = some (.int .i64 x.f0) ∧ W.cell? ⟨w.heap.size + 1, 3, none⟩ = some (.int .i64 x.f3) ∧ W.cell? ⟨w.heap.size + 1, 5, none⟩ = some (.string x.f5) ∧ W.cell? ⟨w.heap.size + 1, 6, none⟩ = some (.slice B6 x.f6.length d6) :=
 ⟨(blk_cell h.n 0).trans rfl, (blk_cell h.n 3).trans rfl, (blk_cell h.n 5).trans rfl, (blk_cell h.n 6).trans rfl⟩
end
theorem show_walk (A0 : Option Addr) (c0 : Nat) (l0_0 : List ByteArray) (A1 : Option Addr) (c1 : Nat) (l0_1 : List ByteArray) (A2 : Option Addr) (c2 : Nat) (l0_2 : List Int) (A3 : Option Addr) (c3 : Nat) (l0_3 : List S58) (A4 : Option Addr) (c4 : Nat) (l0_4 : List S61) (n : Nat) : ∀ (x : S26) (B4 : Option Addr) (d4 : Nat) (B6 : Option Addr) (d6 : Nat) (r : ByteArray) (w : World), SizeOf.sizeOf x < n → GW w → InG w A0 c0 l0_0 A1 c1 l0_1 A2 c2 l0_2 A3 c3 l0_3 A4 c4 l0_4 → NodeE.Ok w ⟨x, B4, d4, B6, d6⟩ → showN l0_0 l0_1 l0_2 l0_3 l0_4 x = some r →
  Calls Tryd.prog 26 #[.agg #[.slice A0 l0_0.length c0, .slice A1 l0_1.length c1, .slice A2 l0_2.length c2, .slice A3 l0_3.length c3, .slice A4 l0_4.length c4], .agg #[.int .i64 x.f0, .int .i64 x.f1, .int .i64 x.f2, .int .i64 x.f3, .slice B4 x.f4.length d4, .string x.f5, .slice B6 x.f6.length d6]] w fun e w' => e = .returned (.string r) ∧ Below w.heap.size w w' := by
 induction n with
 | zero => intro x _ _ _ _ _ _ h; omega
 | succ n ih =>
  intro x B4 d4 B6 d6 r w hs hgw hg hok h
  have IH := Aside0.mk ih
  have HGW := Aside0.mk hgw
  have HG := Aside0.mk hg
  have HOK := Aside0.mk hok
  have HSZ := Aside0.mk hs
  have S0 := Aside0.mk (SV.start (w := w) (A0 := A0) (c0 := c0) (l0_0 := l0_0) (A1 := A1) (c1 := c1) (l0_1 := l0_1) (A2 := A2) (c2 := c2) (l0_2 := l0_2) (A3 := A3) (c3 := c3) (l0_3 := l0_3) (A4 := A4) (c4 := c4) (l0_4 := l0_4) (x := x) (B4 := B4) (d4 := d4) (B6 := B6) (d6 := d6))
  have hn6 : x.f6.length ≤ 9223372036854775807 := HOK.out.g6.2.1
  rw [showN_eq] at h
  clear ih hgw hg hok hs
  by_cases h0 : x.f0 = 0
  case pos =>
   rw [if_pos h0] at h
   obtain rfl := Option.some.inj h
   have h0b : (x.f0 == 0) = true := beq_iff_eq.mpr h0
   clear h0 h
   go_enter Tryd.func26, Tryd.ntmps26
   go_wp2_with fail
   go_ret
   exact ⟨rfl, S0.out.B⟩
  rw [if_neg h0] at h
  have h0b : (x.f0 == 0) = false := beq_eq_false_iff_ne.mpr h0
  obtain ⟨name, hname, h⟩ := Option.bind_eq_some_iff.1 h
  have HN := Aside0.mk hname
  clear hname
  go_enter Tryd.func26, Tryd.ntmps26
  by_cases h1 : 0 < x.f0
  case pos =>
   rw [if_pos h1] at h
   have h1b : decide (0 < x.f0) = true := decide_eq_true h1
   clear h1 h0
   by_cases h2 : x.f3 = 1
   case pos =>
    rw [if_pos h2] at h
    have h2b : (x.f3 == 1) = true := beq_iff_eq.mpr h2
    split at h
    case isFalse => cases h
    rename_i hsz
    obtain rfl := Option.some.inj h
    have hq : 1 + name.size ≤ 9223372036854775807 := by omega
    clear h2 h hsz
    go_wp2_with fail
    refine (InG.sym (HG.out.below S0.out.B) HN.out).mono ?_
    rintro e w1 ⟨rfl, hb⟩
    have S1 := Aside0.mk (S0.out.below hb)
    obtain ⟨n0, n3, n5, n6⟩ := S1.out.cells
    clear hb
    go_wp2_with fail
    go_ret
    exact ⟨rfl, S1.out.B⟩
   rw [if_neg h2] at h
   have h2b : (x.f3 == 1) = false := beq_eq_false_iff_ne.mpr h2
   have HQ := Aside0.mk h
   clear h2 h
   go_wp2_with fail
   refine (InG.sym (HG.out.below S0.out.B) HN.out).mono ?_
   rintro e w1 ⟨rfl, hb⟩
   have S1 := Aside0.mk (S0.out.below hb)
   obtain ⟨n0, n3, n5, n6⟩ := S1.out.cells
   clear hb
   go_wp2_with fail
   refine (text_Quote.calls _ _ _ (GW.below HGW.out S1.out.B) HQ.out).mono ?_
   rintro e w2 ⟨rfl, hb⟩
   have HB2 := Aside0.mk hb
   clear hb
   go_wp2_with fail
   go_ret
   exact ⟨rfl, S1.out.B.trans (HB2.out.mono S1.out.B.size)⟩
  rw [if_neg h1] at h
  have h1b : decide (0 < x.f0) = false := decide_eq_false h1
  clear h1 h0
  obtain ⟨a, ha, h⟩ := Option.bind_eq_some_iff.1 h
  obtain ⟨b, hb, h⟩ := Option.bind_eq_some_iff.1 h
  obtain ⟨l, hl, rfl⟩ := Option.map_eq_some_iff.1 h
  have HA := Aside0.mk ha
  have HBL := Aside0.mk hb
  have HL := Aside0.mk hl
  clear h ha hb hl
  go_wp2_with fail
  refine (InG.sym (HG.out.below S0.out.B) HN.out).mono ?_
  rintro e w1 ⟨rfl, hb⟩
  have S1 := Aside0.mk (S0.out.below hb)
  obtain ⟨n0, n3, n5, n6⟩ := S1.out.cells
  clear hb
  go_wp2_with fail
  have S2 := Aside0.mk (S1.out.below (below_alloc (Below.refl w1.heap.size w1) (.cells #[.pointer none, .slice none 0 0] 69)))
  have D2 := Aside0.mk (Bd.new w1)
  have hbb := S1.out.size
  obtain ⟨w2, hw2⟩ : ∃ w2, w1.alloc (.cells #[.pointer none, .slice none 0 0] 69) = w2 := ⟨_, rfl⟩
  rw [hw2] at S2 D2 ⊢
  clear hw2
  obtain ⟨bb, hb0⟩ : ∃ bb, w1.heap.size = bb := ⟨_, rfl⟩
  rw [hb0] at D2 hbb ⊢
  clear hb0 S1 n0 n3 n5 n6
  refine (S2.out.write D2.out hbb ⟨#[40]⟩ (by simp; exact (by decide : (1:Nat) ≤ 140737488355328))).mono ?_
  rintro e w3 ⟨rfl, hS, hD⟩
  have S3 := Aside0.mk hS
  have D3 := Aside0.mk (show Bd bb [40] w3 from hD)
  clear hS hD S2 D2
  obtain ⟨n0, n3, n5, n6⟩ := S3.out.cells
  go_upto_if 30 with fail
  go_cut [30] (fun v30 wc => Aside0 (SV w A0 c0 l0_0 A1 c1 l0_1 A2 c2 l0_2 A3 c3 l0_3 A4 c4 l0_4 x B4 d4 B6 d6 wc) ∧ Aside0 (Bd bb (if x.f3 = 2 then [40, 33] else [40]) wc))
  case first =>
   by_cases h3 : x.f3 = 2
   case pos =>
    have h3b : (x.f3 == 2) = true := beq_iff_eq.mpr h3
    go_wp2_with fail
    refine (S3.out.write D3.out hbb ⟨#[33]⟩ (by simp; exact (by decide : (2:Nat) ≤ 140737488355328))).mono ?_
    rintro e w4 ⟨rfl, hS, hD⟩
    have S4 := Aside0.mk hS
    have D4 := Aside0.mk (show Bd bb (if x.f3 = 2 then [40, 33] else [40]) w4 by rw [if_pos h3]; exact hD)
    clear hS hD h3
    go_wp2_with fail
    go_meet
    case rel => exact ⟨S4, D4⟩
   case neg =>
    have h3b : (x.f3 == 2) = false := beq_eq_false_iff_ne.mpr h3
    have D4 := Aside0.mk (show Bd bb (if x.f3 = 2 then [40, 33] else [40]) w3 by rw [if_neg h3]; exact D3.out)
    clear h3
    go_wp2_with fail
    go_meet
    case rel => exact ⟨S3, D4⟩
  case rest =>
   clear S3 D3 n0 n3 n5 n6
   obtain ⟨S3, D3⟩ := hcut
   obtain ⟨hpl, rfl⟩ := bput.some HA.out
   have HPL := Aside0.mk hpl
   clear HA hpl
   go_wp2_with fail
   refine (S3.out.write D3.out hbb name HPL.out).mono ?_
   rintro e w4 ⟨rfl, hS, hD⟩
   have S4 := Aside0.mk hS
   have D4 := Aside0.mk hD
   clear hS hD S3 D3
   obtain ⟨n0, n3, n5, n6⟩ := S4.out.cells
   go_wp2_with fail
   go_loopw [37] (fun v37 wr => ∃ (i : Nat) (acc : List UInt8), v37 = .int .i64 (i : Int) ∧ i ≤ x.f6.length ∧ Aside0 (showL l0_0 l0_1 l0_2 l0_3 l0_4 acc (x.f6.drop i) = some b) ∧ Aside0 (SV w A0 c0 l0_0 A1 c1 l0_1 A2 c2 l0_2 A3 c3 l0_3 A4 c4 l0_4 x B4 d4 B6 d6 wr) ∧ Aside0 (Bd bb acc wr)) (fun v37 _ => match v37 with | .int _ z => x.f6.length - z.toNat | _ => 0)
   case atStart => exact ⟨0, _, rfl, Nat.zero_le _, HBL, S4, D4⟩
   case round =>
    clear HBL S4 D4 n0 n3 n5 n6
    obtain ⟨i, acc, rfl, hi, HBL, S4, D4⟩ := hrel
    obtain ⟨n0, n3, n5, n6⟩ := S4.out.cells
    by_cases hlt : i < x.f6.length
    ·have hlt2 : decide ((i : Int) < (x.f6.length : Int)) = true := decide_eq_true (by omega)
     obtain ⟨ad, d, e1, hdx, hok, hc⟩ := kid_at HOK.out i hlt
     have e1' : B6 = some ad := e1
     subst e1'
     clear e1
     obtain ⟨x2, E4, f4, E6, f6⟩ := d
     dsimp only at hdx
     have q0 : wr.cell? (ad.add (i * 7)) = some (.int .i64 x2.f0) := kc2 S4.out.B (hc 0 _ rfl)
     have q1 : wr.cell? ⟨(ad.add (i * 7)).block, (ad.add (i * 7)).off + 1, none⟩ = some (.int .i64 x2.f1) := by rw [← add_field _ _ 1 (by omega)]; exact kc2 S4.out.B (hc 1 _ rfl)
     have q2 : wr.cell? ⟨(ad.add (i * 7)).block, (ad.add (i * 7)).off + 2, none⟩ = some (.int .i64 x2.f2) := by rw [← add_field _ _ 2 (by omega)]; exact kc2 S4.out.B (hc 2 _ rfl)
     have q3 : wr.cell? ⟨(ad.add (i * 7)).block, (ad.add (i * 7)).off + 3, none⟩ = some (.int .i64 x2.f3) := by rw [← add_field _ _ 3 (by omega)]; exact kc2 S4.out.B (hc 3 _ rfl)
     have q4 : wr.cell? ⟨(ad.add (i * 7)).block, (ad.add (i * 7)).off + 4, none⟩ = some (.slice E4 x2.f4.length f4) := by rw [← add_field _ _ 4 (by omega)]; exact kc2 S4.out.B (hc 4 _ rfl)
     have q5 : wr.cell? ⟨(ad.add (i * 7)).block, (ad.add (i * 7)).off + 5, none⟩ = some (.string x2.f5) := by rw [← add_field _ _ 5 (by omega)]; exact kc2 S4.out.B (hc 5 _ rfl)
     have q6 : wr.cell? ⟨(ad.add (i * 7)).block, (ad.add (i * 7)).off + 6, none⟩ = some (.slice E6 x2.f6.length f6) := by rw [← add_field _ _ 6 (by omega)]; exact kc2 S4.out.B (hc 6 _ rfl)
     have h := HBL.out
     rw [List.drop_eq_getElem_cons hlt, ← hdx] at h
     simp only [showL] at h
     obtain ⟨t, ht, h⟩ := Option.bind_eq_some_iff.1 h
     obtain ⟨a2, ha2, h⟩ := Option.bind_eq_some_iff.1 h
     obtain ⟨hpl, rfl⟩ := bput.some ha2
     have HT := Aside0.mk ht
     have HBL2 := Aside0.mk h
     have HPL := Aside0.mk hpl
     have hsz : SizeOf.sizeOf x2 < n := by
      have h5 : SizeOf.sizeOf x.f6[i] < SizeOf.sizeOf x.f6 := List.sizeOf_lt_of_mem (List.getElem_mem hlt)
      have h6 : SizeOf.sizeOf x.f6 < SizeOf.sizeOf x := by cases x; simp; omega
      have h7 := HSZ.out
      rw [← hdx] at h5
      omega
     have HS2 := Aside0.mk hsz
     have HOK2 := Aside0.mk hok
     have hq2 : 1 + t.size ≤ 9223372036854775807 := by rw [ByteArray.size_append] at hpl; have : (⟨#[32]⟩ : ByteArray).size = 1 := rfl; omega
     have S5 := Aside0.mk (S4.out.below (below_alloc (Below.refl wr.heap.size wr) (.cells #[.int .i64 x2.f0, .int .i64 x2.f1, .int .i64 x2.f2, .int .i64 x2.f3, .slice E4 x2.f4.length f4, .string x2.f5, .slice E6 x2.f6.length f6] 26)))
     have D5 := Aside0.mk (D4.out.alloc (.cells #[.int .i64 x2.f0, .int .i64 x2.f1, .int .i64 x2.f2, .int .i64 x2.f3, .slice E4 x2.f4.length f4, .string x2.f5, .slice E6 x2.f6.length f6] 26))
     have hwl : w.heap.size + 1 < wr.heap.size := S4.out.size
     have hwl0 : w.heap.size < wr.heap.size := by omega
     have hwn : ¬ (w.heap.size = wr.heap.size) := by omega
     obtain ⟨g0, g1, g2, g3, g4⟩ := S4.out.g.cells
     have hm : x.f6.length - (i + 1) < x.f6.length - i := by omega
     have ew2 : wrap64 ((i : Int) + 1) = ((i + 1 : Nat) : Int) := by unfold wrap64; omega
     have HEW := Aside0.mk ew2
     clear h ht ha2 hpl hsz hok hc hdx HBL S4 D4 ew2
     go_wp2_with fail
     refine (IH.out x2 E4 f4 E6 f6 t _ HS2.out (GW.below HGW.out S5.out.B) (HG.out.below S5.out.B) (HOK2.out.step (fun k q => S5.out.B.block k q)) HT.out).mono ?_
     rintro e w5 ⟨rfl, hb⟩
     have S6 := Aside0.mk (S5.out.below hb)
     have D6 := Aside0.mk (D5.out.below hb)
     clear hb S5 D5 n0 n3 n5 n6 g0 g1 g2 g3 g4 q0 q1 q2 q3 q4 q5 q6
     go_wp2_with fail
     refine (S6.out.write D6.out hbb _ HPL.out).mono ?_
     rintro e w6 ⟨rfl, hS, hD⟩
     have S7 := Aside0.mk hS
     have D7 := Aside0.mk hD
     clear hS hD S6 D6
     have ew := HEW.out
     go_wp2_with fail
     refine ⟨⟨i + 1, _, ?_, hlt, HBL2, S7, D7⟩, ?_⟩
     ·first | rfl | (simp; done) | (simp [ew]; done)
     ·first | exact hm | (rw [ew]; exact hm)
    ·have hlt2 : decide ((i : Int) < (x.f6.length : Int)) = false := decide_eq_false (by omega)
     have hie : i = x.f6.length := by omega
     have h := HBL.out
     rw [hie, List.drop_of_length_le (Nat.le_refl _)] at h
     simp only [showL] at h
     obtain rfl := Option.some.inj h
     obtain ⟨hpl, rfl⟩ := bput.some HL.out
     have HPL := Aside0.mk hpl
     clear h hie HBL HL hpl
     go_wp2_with fail
     refine (S4.out.write D4.out hbb ⟨#[41]⟩ HPL.out).mono ?_
     rintro e w5 ⟨rfl, hS, hD⟩
     have S5 := Aside0.mk hS
     have D5 := Aside0.mk hD
     clear hS hD S4 D4
     go_wp2_with fail
     refine (D5.out.string).mono ?_
     rintro e w6 ⟨rfl, hb⟩
     have HB6 := Aside0.mk (S5.out.B.trans (hb.mono (by omega)))
     clear hb
     go_wp2_with fail
     go_ret
     exact ⟨rfl, HB6.out⟩
theorem cst_Show.calls (A0_0 : Option Addr) (c0_0 : Nat) (l0_0 : List ByteArray) (A0_1 : Option Addr) (c0_1 : Nat) (l0_1 : List ByteArray) (A0_2 : Option Addr) (c0_2 : Nat) (l0_2 : List Int) (A0_3 : Option Addr) (c0_3 : Nat) (l0_3 : List S58) (A0_4 : Option Addr) (c0_4 : Nat) (l0_4 : List S61) (a1_0 : Int) (a1_1 : Int) (a1_2 : Int) (a1_3 : Int) (A1_4 : Option Addr) (c1_4 : Nat) (l1_4 : List S46) (a1_5 : ByteArray) (A1_6 : Option Addr) (c1_6 : Nat) (l1_6 : List S26) (r : ByteArray) (w : World) (hgw : GW w) (hr0_0 : Kd.C Kd.string w A0_0 l0_0.length l0_0) (hc0_0 : l0_0.length ≤ c0_0) (hr0_1 : Kd.C Kd.string w A0_1 l0_1.length l0_1) (hc0_1 : l0_1.length ≤ c0_1) (hr0_2 : Kd.C (Kd.int .i64) w A0_2 l0_2.length l0_2) (hc0_2 : l0_2.length ≤ c0_2) (hr0_3 : Kd.C k58 w A0_3 l0_3.length l0_3) (hc0_3 : l0_3.length ≤ c0_3) (hr0_4 : Kd.C k61 w A0_4 l0_4.length l0_4) (hc0_4 : l0_4.length ≤ c0_4) (hr1_4 : Kd.C k46 w A1_4 l1_4.length l1_4) (hc1_4 : l1_4.length ≤ c1_4) (hr1_6 : Kd.C k26 w A1_6 l1_6.length l1_6) (hc1_6 : l1_6.length ≤ c1_6) (h : cst_Show.f l0_0 l0_1 l0_2 l0_3 l0_4 a1_0 a1_1 a1_2 a1_3 l1_4 a1_5 l1_6 = some r) :
  Calls Tryd.prog 26 #[.agg #[.slice A0_0 l0_0.length c0_0, .slice A0_1 l0_1.length c0_1, .slice A0_2 l0_2.length c0_2, .slice A0_3 l0_3.length c0_3, .slice A0_4 l0_4.length c0_4], .agg #[.int .i64 a1_0, .int .i64 a1_1, .int .i64 a1_2, .int .i64 a1_3, .slice A1_4 l1_4.length c1_4, .string a1_5, .slice A1_6 l1_6.length c1_6]] w fun e w' => e = .returned (.string r) ∧ Below w.heap.size w w' :=
 show_walk _ _ _ _ _ _ _ _ _ _ _ _ _ _ _ _ ⟨a1_0, a1_1, a1_2, a1_3, l1_4, a1_5, l1_6⟩ A1_4 c1_4 A1_6 c1_6 r w (Nat.lt_succ_self _) hgw (InG.mk hr0_0 hc0_0 hr0_1 hc0_1 hr0_2 hc0_2 hr0_3 hc0_3 hr0_4 hc0_4) ⟨hc1_4, hr1_4, hc1_6, hr1_6⟩ h
end
section
open Go.Shelf Go.Proofs.YtphmgaijkdflnaaDoorW.PrintWords Go.Proofs.YtphmgaijkdflnaaDoorW.PrintLast Go.Proofs.YtphmgaijkdflnaaDoorW.PrintMore
open Go.Maps
section
variable {w W : World} {A0 : Option Addr} {c0 : Nat} {l0_0 : List ByteArray} {A1 : Option Addr} {c1 : Nat} {l0_1 : List ByteArray} {A2 : Option Addr} {c2 : Nat} {l0_2 : List Int} {A3 : Option Addr} {c3 : Nat} {l0_3 : List S58} {A4 : Option Addr} {c4 : Nat} {l0_4 : List S61} {y : S26} {B4 : Option Addr} {d4 : Nat} {B6 : Option Addr} {d6 : Nat} {z : S26} {C4 : Option Addr} {e4 : Nat} {C6 : Option Addr} {e6 : Nat}
theorem NodeE.Ok.clean (O : NodeE.Ok W ⟨y, B4, d4, B6, d6⟩) {r : Bool} (h : cst_Clean.f y.f0 y.f1 y.f2 y.f3 y.f4 y.f5 y.f6 = some r) : Calls Tryd.prog 19 #[.agg #[.int .i64 y.f0, .int .i64 y.f1, .int .i64 y.f2, .int .i64 y.f3, .slice B4 y.f4.length d4, .string y.f5, .slice B6 y.f6.length d6]] W fun e w' => e = .returned (.bool r) ∧ Below W.heap.size W w' :=
 cst_Clean.calls _ _ _ _ _ _ _ _ _ _ _ r W O.g4 O.l4 O.g6 O.l6 h
theorem NodeE.Ok.text (O : NodeE.Ok W ⟨y, B4, d4, B6, d6⟩) {r : ByteArray} (h : cst_Text.f y.f0 y.f1 y.f2 y.f3 y.f4 y.f5 y.f6 = some r) : Calls Tryd.prog 10 #[.agg #[.int .i64 y.f0, .int .i64 y.f1, .int .i64 y.f2, .int .i64 y.f3, .slice B4 y.f4.length d4, .string y.f5, .slice B6 y.f6.length d6]] W fun e w' => e = .returned (.string r) ∧ Below W.heap.size W w' :=
 cst_Text.calls _ _ _ _ _ _ _ _ _ _ _ r W O.g4 O.l4 O.g6 O.l6 h
theorem NodeE.Ok.len (O : NodeE.Ok W ⟨y, B4, d4, B6, d6⟩) {r : Int} (h : cst_Len.f y.f0 y.f1 y.f2 y.f3 y.f4 y.f5 y.f6 = some r) : Calls Tryd.prog 12 #[.agg #[.int .i64 y.f0, .int .i64 y.f1, .int .i64 y.f2, .int .i64 y.f3, .slice B4 y.f4.length d4, .string y.f5, .slice B6 y.f6.length d6]] W fun e w' => e = .returned (.int .i64 r) ∧ Below W.heap.size W w' :=
 cst_Len.calls _ _ _ _ _ _ _ _ _ _ _ r W O.g4 O.l4 O.g6 O.l6 h
theorem NodeE.Ok.leaves (O : NodeE.Ok W ⟨y, B4, d4, B6, d6⟩) {r : List S26} (h : cst_Leaves.f y.f0 y.f1 y.f2 y.f3 y.f4 y.f5 y.f6 = some r) : Calls Tryd.prog 17 #[.agg #[.int .i64 y.f0, .int .i64 y.f1, .int .i64 y.f2, .int .i64 y.f3, .slice B4 y.f4.length d4, .string y.f5, .slice B6 y.f6.length d6]] W fun e w' => ∃ A c, e = .returned (.slice A r.length c) ∧ Below W.heap.size W w' := by
 refine (cst_Leaves.calls _ _ _ _ _ _ _ _ _ _ _ r W O.g4 O.l4 O.g6 O.l6 h).mono ?_
 rintro e w' ⟨v, rfl, hR, hb⟩
 obtain ⟨A, c, rfl⟩ := Kd.R_slice hR
 exact ⟨A, c, rfl, hb⟩
theorem NodeE.Ok.same {k : Nat} (O : NodeE.Ok W ⟨y, B4, d4, B6, d6⟩) (O2 : NodeE.Ok W ⟨z, C4, e4, C6, e6⟩) {r : Bool} (h : cst_Same.f k y.f0 y.f1 y.f2 y.f3 y.f4 y.f5 y.f6 z.f0 z.f1 z.f2 z.f3 z.f4 z.f5 z.f6 = some r) : Calls Tryd.prog 21 #[.agg #[.int .i64 y.f0, .int .i64 y.f1, .int .i64 y.f2, .int .i64 y.f3, .slice B4 y.f4.length d4, .string y.f5, .slice B6 y.f6.length d6], .agg #[.int .i64 z.f0, .int .i64 z.f1, .int .i64 z.f2, .int .i64 z.f3, .slice C4 z.f4.length e4, .string z.f5, .slice C6 z.f6.length e6]] W fun e w' => e = .returned (.bool r) ∧ Below W.heap.size W w' :=
 cst_Same.calls k _ _ _ _ _ _ _ _ _ _ _ _ _ _ _ _ _ _ _ _ _ _ r W O.g4 O.l4 O.g6 O.l6 O2.g4 O2.l4 O2.g6 O2.l6 h
theorem InG.show_ (G : InG W A0 c0 l0_0 A1 c1 l0_1 A2 c2 l0_2 A3 c3 l0_3 A4 c4 l0_4) (hgw : GW W) (O : NodeE.Ok W ⟨y, B4, d4, B6, d6⟩) {r : ByteArray} (h : cst_Show.f l0_0 l0_1 l0_2 l0_3 l0_4 y.f0 y.f1 y.f2 y.f3 y.f4 y.f5 y.f6 = some r) : Calls Tryd.prog 26 #[.agg #[.slice A0 l0_0.length c0, .slice A1 l0_1.length c1, .slice A2 l0_2.length c2, .slice A3 l0_3.length c3, .slice A4 l0_4.length c4], .agg #[.int .i64 y.f0, .int .i64 y.f1, .int .i64 y.f2, .int .i64 y.f3, .slice B4 y.f4.length d4, .string y.f5, .slice B6 y.f6.length d6]] W fun e w' => e = .returned (.string r) ∧ Below W.heap.size W w' :=
 cst_Show.calls _ _ _ _ _ _ _ _ _ _ _ _ _ _ _ _ _ _ _ _ _ _ _ _ _ _ r W hgw G.r0 G.h0 G.r1 G.h1 G.r2 G.h2 G.r3 G.h3 G.r4 G.h4 O.g4 O.l4 O.g6 O.l6 h
theorem InG.cstright {k : Nat} (G : InG W A0 c0 l0_0 A1 c1 l0_1 A2 c2 l0_2 A3 c3 l0_3 A4 c4 l0_4) (O : NodeE.Ok W ⟨y, B4, d4, B6, d6⟩) {r : Bool} (h : cst_Right.f k l0_0 l0_1 l0_2 l0_3 l0_4 y.f0 y.f1 y.f2 y.f3 y.f4 y.f5 y.f6 = some r) : Calls Tryd.prog 24 #[.agg #[.slice A0 l0_0.length c0, .slice A1 l0_1.length c1, .slice A2 l0_2.length c2, .slice A3 l0_3.length c3, .slice A4 l0_4.length c4], .agg #[.int .i64 y.f0, .int .i64 y.f1, .int .i64 y.f2, .int .i64 y.f3, .slice B4 y.f4.length d4, .string y.f5, .slice B6 y.f6.length d6]] W fun e w' => e = .returned (.bool r) ∧ Below W.heap.size W w' :=
 cst_Right.calls k _ _ _ _ _ _ _ _ _ _ _ _ _ _ _ _ _ _ _ _ _ _ _ _ _ _ r W G.r0 G.h0 G.r1 G.h1 G.r2 G.h2 G.r3 G.h3 G.r4 G.h4 O.g4 O.l4 O.g6 O.l6 h
end
def plusN : S26 := ⟨-1, 0, 0, 0, [], ⟨#[]⟩, [nInner (-2) 1 [nInner (-2) 2 [nLeaf 2 (-1) 0 ⟨#[49]⟩], nLeaf 3 (-1) 0 ⟨#[43]⟩, nInner (-2) 2 [nLeaf 2 (-1) 1 ⟨#[]⟩]], nLeaf 0 (-1) 0 ⟨#[]⟩]⟩
theorem plus_any (P : S26) (hP : P = plusN) (w : World) : Calls Tryd.prog 30 #[] w fun e w' => ∃ A4 c4 A6 c6, e = .returned (.agg #[.int .i64 P.f0, .int .i64 P.f1, .int .i64 P.f2, .int .i64 P.f3, .slice A4 P.f4.length c4, .string P.f5, .slice A6 P.f6.length c6]) ∧ NodeE.Ok w' ⟨P, A4, c4, A6, c6⟩ ∧ Below w.heap.size w w' := by
 refine (arboristlaw42_Plus.calls P.f0 P.f1 P.f2 P.f3 P.f4 P.f5 P.f6 w (by rw [hP]; rfl)).mono ?_
 rintro e w' ⟨v0, v1, rfl, h4, h6, hb⟩
 obtain ⟨A4, c4, rfl⟩ := Kd.R_slice h4
 obtain ⟨A6, c6, rfl, hl6, hr6⟩ := Kd.N_reads h6
 obtain ⟨_, hl4, hr4⟩ := Kd.R_reads' h4
 exact ⟨A4, c4, A6, c6, rfl, ⟨hl4, hr4, hl6, hr6⟩, hb⟩
theorem sum_any (l0_0 l0_1 : List ByteArray) (l0_2 : List Int) (l0_3 : List S58) (l0_4 : List S61) (h : arboristlaw21_Sum.f = some (l0_0, l0_1, l0_2, l0_3, l0_4)) (w : World) :
  Calls Tryd.prog 29 #[] w fun e w' => ∃ A0 c0 A1 c1 A2 c2 A3 c3 A4 c4, e = .returned (.agg #[.slice A0 l0_0.length c0, .slice A1 l0_1.length c1, .slice A2 l0_2.length c2, .slice A3 l0_3.length c3, .slice A4 l0_4.length c4]) ∧ InG w' A0 c0 l0_0 A1 c1 l0_1 A2 c2 l0_2 A3 c3 l0_3 A4 c4 l0_4 ∧ Below w.heap.size w w' := by
 refine (arboristlaw21_Sum.calls _ _ _ _ _ w h).mono ?_
 rintro e w' ⟨v0, v1, v2, v3, v4, rfl, h0, h1, h2, h3, h4, hb⟩
 obtain ⟨A0, c0, rfl⟩ := Kd.R_slice h0
 obtain ⟨A1, c1, rfl⟩ := Kd.R_slice h1
 obtain ⟨A2, c2, rfl⟩ := Kd.R_slice h2
 obtain ⟨A3, c3, rfl, k3, g3⟩ := Kd.N_reads h3
 obtain ⟨A4, c4, rfl, k4, g4⟩ := Kd.N_reads h4
 exact ⟨_, _, _, _, _, _, _, _, _, _, rfl, ⟨(Kd.R_reads' h0).2.2, (Kd.R_reads' h0).2.1, (Kd.R_reads' h1).2.2, (Kd.R_reads' h1).2.1, (Kd.R_reads' h2).2.2, (Kd.R_reads' h2).2.1, g3, k3, g4, k4⟩, hb⟩
theorem kc3 {w W : World} {p : Addr} {v : Value} (hb : Below w.heap.size w W) (h : w.cell? p = some v) : W.cell? p = some v := (hb.cell (World.block_lt_of_cell? w _ h)).trans h
theorem keepS {w1 W W' : World} {p0 p1 p2 p3 p4 : Addr} {v0 v1 v2 v3 v4 : Value} (hb : Below W.heap.size W W') (h : Below w1.heap.size w1 W ∧ W.cell? p0 = some v0 ∧ W.cell? p1 = some v1 ∧ W.cell? p2 = some v2 ∧ W.cell? p3 = some v3 ∧ W.cell? p4 = some v4) :
  Below w1.heap.size w1 W' ∧ W'.cell? p0 = some v0 ∧ W'.cell? p1 = some v1 ∧ W'.cell? p2 = some v2 ∧ W'.cell? p3 = some v3 ∧ W'.cell? p4 = some v4 :=
 ⟨h.1.trans (hb.mono h.1.size), kc3 hb h.2.1, kc3 hb h.2.2.1, kc3 hb h.2.2.2.1, kc3 hb h.2.2.2.2.1, kc3 hb h.2.2.2.2.2⟩
theorem knows_walk (P : S26) (hP : P = plusN) (l0_0 l0_1 : List ByteArray) (l0_2 : List Int) (l0_3 : List S58) (l0_4 : List S61) (hS : arboristlaw21_Sum.f = some (l0_0, l0_1, l0_2, l0_3, l0_4)) {k : Nat} {t1 t2 : ByteArray} {lv : List S26}
  (e1 : cst_Show.f l0_0 l0_1 l0_2 l0_3 l0_4 P.f0 P.f1 P.f2 P.f3 P.f4 P.f5 P.f6 = some t1) (e1b : (t1.toList == [40, 36, 115, 116, 97, 114, 116, 32, 40, 101, 32, 40, 101, 32, 34, 49, 34, 41, 32, 34, 43, 34, 32, 40, 101, 32, 33, 110, 41, 41, 32, 36, 101, 110, 100, 41]) = true) (e2 : cst_Right.f k l0_0 l0_1 l0_2 l0_3 l0_4 P.f0 P.f1 P.f2 P.f3 P.f4 P.f5 P.f6 = some true) (e3 : cst_Clean.f P.f0 P.f1 P.f2 P.f3 P.f4 P.f5 P.f6 = some false) (e4 : cst_Text.f P.f0 P.f1 P.f2 P.f3 P.f4 P.f5 P.f6 = some t2) (e4b : (t2.toList == [49, 43]) = true) (e5 : cst_Len.f P.f0 P.f1 P.f2 P.f3 P.f4 P.f5 P.f6 = some 2) (e6 : cst_Size.f P.f0 P.f1 P.f2 P.f3 P.f4 P.f5 P.f6 = some 8)
  (e7 : cst_Leaves.f P.f0 P.f1 P.f2 P.f3 P.f4 P.f5 P.f6 = some lv) (e7b : lv.length = 4) (e8 : cst_Same.f k P.f0 P.f1 P.f2 P.f3 P.f4 P.f5 P.f6 P.f0 P.f1 P.f2 P.f3 P.f4 P.f5 P.f6 = some true) (w : World) (hgw : GW w) : Calls Tryd.prog 9 #[] w fun e w' => e = .returned (.bool true) ∧ Below w.heap.size w w' := by
 have HP := Aside0.mk (plus_any P hP)
 have HSU := Aside0.mk (sum_any l0_0 l0_1 l0_2 l0_3 l0_4 hS)
 have HGW := Aside0.mk hgw
 have E1 := Aside0.mk e1
 have E2 := Aside0.mk e2
 have E3 := Aside0.mk e3
 have E4 := Aside0.mk e4
 have E5 := Aside0.mk e5
 have E6 := Aside0.mk e6
 have E7 := Aside0.mk e7
 have E7b := Aside0.mk e7b
 have E8 := Aside0.mk e8
 clear hP hS e1 e2 e3 e4 e5 e6 e7 e7b e8 hgw
 go_enter Tryd.func9, Tryd.ntmps9
 go_wp2_with (go_at_call 29; refine (HSU.out _).mono ?_; rintro e w1 ⟨A0, c0, A1, c1, A2, c2, A3, c3, A4, c4, rfl, hg, hb⟩; have HG := Aside0.mk hg; have HB := Aside0.mk hb; clear hg hb)
 have hw2 := below_alloc (Below.refl w1.heap.size w1) (.cells #[.slice A0 l0_0.length c0, .slice A1 l0_1.length c1, .slice A2 l0_2.length c2, .slice A3 l0_3.length c3, .slice A4 l0_4.length c4] 40)
 have hbk := blk_new w1 (.cells #[.slice A0 l0_0.length c0, .slice A1 l0_1.length c1, .slice A2 l0_2.length c2, .slice A3 l0_3.length c3, .slice A4 l0_4.length c4] 40)
 have g0 : (w1.alloc (.cells #[.slice A0 l0_0.length c0, .slice A1 l0_1.length c1, .slice A2 l0_2.length c2, .slice A3 l0_3.length c3, .slice A4 l0_4.length c4] 40)).cell? ⟨w1.heap.size, 0, none⟩ = some (.slice A0 l0_0.length c0) := (blk_cell hbk 0).trans rfl
 have g1 : (w1.alloc (.cells #[.slice A0 l0_0.length c0, .slice A1 l0_1.length c1, .slice A2 l0_2.length c2, .slice A3 l0_3.length c3, .slice A4 l0_4.length c4] 40)).cell? ⟨w1.heap.size, 1, none⟩ = some (.slice A1 l0_1.length c1) := (blk_cell hbk 1).trans rfl
 have g2 : (w1.alloc (.cells #[.slice A0 l0_0.length c0, .slice A1 l0_1.length c1, .slice A2 l0_2.length c2, .slice A3 l0_3.length c3, .slice A4 l0_4.length c4] 40)).cell? ⟨w1.heap.size, 2, none⟩ = some (.slice A2 l0_2.length c2) := (blk_cell hbk 2).trans rfl
 have g3 : (w1.alloc (.cells #[.slice A0 l0_0.length c0, .slice A1 l0_1.length c1, .slice A2 l0_2.length c2, .slice A3 l0_3.length c3, .slice A4 l0_4.length c4] 40)).cell? ⟨w1.heap.size, 3, none⟩ = some (.slice A3 l0_3.length c3) := (blk_cell hbk 3).trans rfl
 have g4 : (w1.alloc (.cells #[.slice A0 l0_0.length c0, .slice A1 l0_1.length c1, .slice A2 l0_2.length c2, .slice A3 l0_3.length c3, .slice A4 l0_4.length c4] 40)).cell? ⟨w1.heap.size, 4, none⟩ = some (.slice A4 l0_4.length c4) := (blk_cell hbk 4).trans rfl
 clear hbk
 obtain ⟨w2, hw⟩ : ∃ w2, w1.alloc (.cells #[.slice A0 l0_0.length c0, .slice A1 l0_1.length c1, .slice A2 l0_2.length c2, .slice A3 l0_3.length c3, .slice A4 l0_4.length c4] 40) = w2 := ⟨_, rfl⟩
 rw [hw] at hw2 g0 g1 g2 g3 g4 ⊢
 clear hw
 have HB2 := Aside0.mk hw2
 clear hw2
 first | (go_region_held3 (fun w' => Below w1.heap.size w1 w' ∧ w'.cell? ⟨w1.heap.size, 0, none⟩ = some (.slice A0 l0_0.length c0) ∧ w'.cell? ⟨w1.heap.size, 1, none⟩ = some (.slice A1 l0_1.length c1) ∧ w'.cell? ⟨w1.heap.size, 2, none⟩ = some (.slice A2 l0_2.length c2) ∧ w'.cell? ⟨w1.heap.size, 3, none⟩ = some (.slice A3 l0_3.length c3) ∧ w'.cell? ⟨w1.heap.size, 4, none⟩ = some (.slice A4 l0_4.length c4))
  (first
   | exact keepS hb (by assumption)
   | exact keepS hb ⟨by assumption, by assumption, by assumption, by assumption, by assumption, by assumption⟩
   | (refine ⟨below_drew1 HB2.out, ?_, ?_, ?_, ?_, ?_⟩ <;> (first | assumption | (simp [*]; done))))
  (first
   | (go_at_call 30; refine (HP.out _).mono ?_; rintro e wp ⟨X4, x4, X6, x6, rfl, hok, hb⟩; (try have HOLD := Aside0.mk (HOK.out.step (fun k q => hb.block k q))); (try clear HOK); have HOK := Aside0.mk hok; clear hok)
   | (go_at_call 26; refine (InG.show_ (HG.out.below (by first | assumption | exact And.left (by assumption) | exact below_drew1 HB2.out)) (GW.below HGW.out (HB.out.trans (Below.mono (by first | assumption | exact And.left (by assumption) | exact below_drew1 HB2.out) HB.out.size))) HOK.out E1.out).mono ?_; rintro e wp ⟨rfl, hb⟩; clear HOK)
   | (go_at_call 24; refine (InG.cstright (HG.out.below (by first | assumption | exact And.left (by assumption) | exact below_drew1 HB2.out)) HOK.out E2.out).mono ?_; rintro e wp ⟨rfl, hb⟩; clear HOK)
   | (go_at_call 19; refine (NodeE.Ok.clean HOK.out E3.out).mono ?_; rintro e wp ⟨rfl, hb⟩; clear HOK)
   | (go_at_call 10; refine (NodeE.Ok.text HOK.out E4.out).mono ?_; rintro e wp ⟨rfl, hb⟩; clear HOK)
   | (go_at_call 12; refine (NodeE.Ok.len HOK.out E5.out).mono ?_; rintro e wp ⟨rfl, hb⟩; clear HOK)
   | (go_at_call 14; refine (NodeE.Ok.size HOK.out E6.out).mono ?_; rintro e wp ⟨rfl, hb⟩; clear HOK)
   | (go_at_call 17; refine (NodeE.Ok.leaves HOK.out E7.out).mono ?_; rintro e wp ⟨LA, lc, rfl, hb⟩; clear HOK; rw [E7b.out])
   | (go_at_call 21; refine (NodeE.Ok.same HOLD.out HOK.out E8.out).mono ?_; rintro e wp ⟨rfl, hb⟩; clear HOK))) | fail
 go_wp2
 go_ret
 exact ⟨rfl, HB.out.trans (Below.mono (by first | assumption | exact And.left (by assumption) | exact below_drew1 HB2.out) HB.out.size)⟩
theorem know_facts : ∃ l0_0 l0_1 l0_2 l0_3 l0_4 t1 t2 lv, arboristlaw21_Sum.f = some (l0_0, l0_1, l0_2, l0_3, l0_4) ∧ cst_Show.f l0_0 l0_1 l0_2 l0_3 l0_4 plusN.f0 plusN.f1 plusN.f2 plusN.f3 plusN.f4 plusN.f5 plusN.f6 = some t1 ∧ (t1.toList == [40, 36, 115, 116, 97, 114, 116, 32, 40, 101, 32, 40, 101, 32, 34, 49, 34, 41, 32, 34, 43, 34, 32, 40, 101, 32, 33, 110, 41, 41, 32, 36, 101, 110, 100, 41]) = true ∧ cst_Right.f 50 l0_0 l0_1 l0_2 l0_3 l0_4 plusN.f0 plusN.f1 plusN.f2 plusN.f3 plusN.f4 plusN.f5 plusN.f6 = some true ∧ cst_Clean.f plusN.f0 plusN.f1 plusN.f2 plusN.f3 plusN.f4 plusN.f5 plusN.f6 = some false ∧ cst_Text.f plusN.f0 plusN.f1 plusN.f2 plusN.f3 plusN.f4 plusN.f5 plusN.f6 = some t2 ∧ (t2.toList == [49, 43]) = true ∧
  cst_Len.f plusN.f0 plusN.f1 plusN.f2 plusN.f3 plusN.f4 plusN.f5 plusN.f6 = some 2 ∧ cst_Size.f plusN.f0 plusN.f1 plusN.f2 plusN.f3 plusN.f4 plusN.f5 plusN.f6 = some 8 ∧ cst_Leaves.f plusN.f0 plusN.f1 plusN.f2 plusN.f3 plusN.f4 plusN.f5 plusN.f6 = some lv ∧ lv.length = 4 ∧ cst_Same.f 50 plusN.f0 plusN.f1 plusN.f2 plusN.f3 plusN.f4 plusN.f5 plusN.f6 plusN.f0 plusN.f1 plusN.f2 plusN.f3 plusN.f4 plusN.f5 plusN.f6 = some true :=
 ⟨_, _, _, _, _, ⟨#[40, 36, 115, 116, 97, 114, 116, 32, 40, 101, 32, 40, 101, 32, 34, 49, 34, 41, 32, 34, 43, 34, 32, 40, 101, 32, 33, 110, 41, 41, 32, 36, 101, 110, 100, 41]⟩, ⟨#[49, 43]⟩, leavesN plusN, rfl, by kernel_rfl, by kernel_rfl, by kernel_rfl, by kernel_rfl, by kernel_rfl, by kernel_rfl, by kernel_rfl, by kernel_rfl, by kernel_rfl, by kernel_rfl, by kernel_rfl⟩
def arboristlaw42_knows.f : Option Bool := some true
theorem arboristlaw42_knows.calls (r : Bool) (w : World) (hgw : GW w) (h : arboristlaw42_knows.f = some r) : Calls Tryd.prog 9 #[] w fun e w' => e = .returned (.bool r) ∧ Below w.heap.size w w' := by
 obtain rfl := Option.some.inj h
 obtain ⟨a, b, c, d, e, t1, t2, lv, h0, h1, h2, h3, h4, h5, h6, h7, h8, h9, ha, hb⟩ := know_facts
 exact knows_walk plusN rfl a b c d e h0 h1 h2 (k := 50) h3 h4 h5 h6 h7 h8 h9 ha hb w hgw
end
section
open Go.Proofs.YtphmgaijkdflnaaDoorW.PrintWords Go.Proofs.YtphmgaijkdflnaaDoorW.PrintLast Go.Proofs.YtphmgaijkdflnaaDoorW.PrintMore
theorem size_val {x : S26} (h : Mild x) : cst_Size.f x.f0 x.f1 x.f2 x.f3 x.f4 x.f5 x.f6 = some ((preN x).length : Int) := by cases x; exact if_pos h.2.2
theorem knows_ends : Ends (fun _ => (arboristlaw42_knows.f).bind fun t => some t) true := Ends.const _
theorem wrap_nat (a : Nat) (h : a ≤ 4294967296) : wrap64 (a : Int) = (a : Int) := wrap_id (by omega) (by omega)
theorem one_tail (s : ByteArray) (pos : Nat) (h : pos < s.size) : arboristref01_one.f (s.extract pos s.size) = some (((Utf8.decode s pos).1 : Int), ((Utf8.decode s pos).2 : Int)) := by
 unfold arboristref01_one.f oneOf
 rw [if_neg (by simp; omega), Lib.tail_decode]
 rfl
theorem refRunes_l0 (s : ByteArray) (hs : s.size ≤ 1000000) : ∀ (f pos : Nat) (acc : List S87), s.size ≤ pos + f → pos ≤ s.size → acc.length ≤ pos → ∃ k, arboristref01_Runes.l0 k s acc (pos : Int) = some (acc ++ runesFrom s f pos) := by
 intro f
 induction f with
 | zero =>
  intro pos acc h1 h2 h3
  refine ⟨1, ?_⟩
  simp only [arboristref01_Runes.l0]
  rw [if_neg (by omega)]
  simp [runesFrom]
 | succ f ih =>
  intro pos acc h1 h2 h3
  by_cases hp : pos < s.size
  ·have w1 := rune_w_pos s pos
   have w2 := rune_w_le s pos hp
   obtain ⟨k, hk⟩ := ih (pos + (Utf8.decode s pos).2) (acc ++ [⟨((Utf8.decode s pos).1 : Int), (pos : Int), ((Utf8.decode s pos).2 : Int)⟩]) (by omega) (by omega) (by simp; omega)
   refine ⟨k + 1, ?_⟩
   simp only [arboristref01_Runes.l0]
   rw [if_pos (by omega), if_pos (by omega), if_pos (by omega), Int.toNat_natCast, one_tail s pos hp]
   simp only [Option.bind_some]
   rw [if_pos (by omega), wrap_id (by omega) (by omega)]
   rw [show (pos : Int) + ((Utf8.decode s pos).2 : Int) = ((pos + (Utf8.decode s pos).2 : Nat) : Int) by push_cast; rfl, hk]
   simp [runesFrom, hp]
  ·refine ⟨1, ?_⟩
   simp only [arboristref01_Runes.l0]
   rw [if_neg (by omega), runesFrom_end s _ _ hp]
   simp
theorem refRunes_ends (s : ByteArray) (hs : s.size ≤ 1000000) : ∃ k, arboristref01_Runes.f k s = some (runesL s) := by
 obtain ⟨k, hk⟩ := refRunes_l0 s hs s.size 0 [] (by omega) (by omega) (by simp)
 exact ⟨k, by simpa [arboristref01_Runes.f, runesL] using hk⟩
theorem runesL_len (s : ByteArray) : (runesL s).length ≤ s.size := by
 have := runesFrom_len s s.size 0
 simpa [runesL] using this
def ba (l : List UInt8) : ByteArray := ⟨l.toArray⟩
theorem ba_app (a b : List UInt8) : ba a ++ ba b = ba (a ++ b) := ba_ext (by simp [ba])
theorem ba_size (l : List UInt8) : (ba l).size = l.length := by simp [ba, ByteArray.size]
theorem ba_list (l : List UInt8) : (ba l).data.toList = l := by simp [ba]
theorem ba_of (s : ByteArray) : s = ba s.data.toList := ba_ext (by simp [ba])
theorem hex_one (d : Nat) (hd : d < 16) : ((⟨#[48, 49, 50, 51, 52, 53, 54, 55, 56, 57, 97, 98, 99, 100, 101, 102]⟩ : ByteArray).extract d (d + 1)) = ba [hexD d] := by
 have H : ∀ d, d < 16 → ((⟨#[48, 49, 50, 51, 52, 53, 54, 55, 56, 57, 97, 98, 99, 100, 101, 102]⟩ : ByteArray).extract d (d + 1)).data.toList = [hexD d] := by decide
 exact ba_ext (by rw [H d hd, ba_list])
theorem refHex_l0 (least : Nat) (hl : least ≤ 2) : ∀ (f u : Nat) (acc : List UInt8), 1 ≤ u → u < 16 ^ (f + 1) → u ≤ 4294967296 → acc.length + f ≤ 60 → least ≤ acc.length + (if 16 ≤ u then 2 else 1) → Ends (fun k => arboristref01_Hex.l0 k (u : Int) (least : Int) (ba acc)) (ba (hexL f u acc)) := by
 intro f
 have one : ∀ (u : Nat) (acc : List UInt8) (v : ByteArray), 1 ≤ u → u ≤ 4294967296 → acc.length ≤ 200 → Ends (fun k => arboristref01_Hex.l0 k ((u / 16 : Nat) : Int) (least : Int) (ba (hexD (u % 16) :: acc))) v → Ends (fun k => arboristref01_Hex.l0 k (u : Int) (least : Int) (ba acc)) v := by
  intro u acc v h1 h2 h3 hv
  have e1 : Int.tmod (u : Int) 16 = ((u % 16 : Nat) : Int) := by rw [Int.tmod_eq_emod_of_nonneg (by omega)]; push_cast; rfl
  have e2 : Int.tdiv (u : Int) 16 = ((u / 16 : Nat) : Int) := by rw [Int.tdiv_eq_ediv_of_nonneg (by omega)]; push_cast; rfl
  have hm : u % 16 < 16 := Nat.mod_lt _ (by omega)
  have e3 : wrap64 (((u % 16 : Nat) : Int) + 1) = ((u % 16 + 1 : Nat) : Int) := by rw [wrap_id (by omega) (by omega)]; push_cast; rfl
  have e4 : wrap64 ((u / 16 : Nat) : Int) = ((u / 16 : Nat) : Int) := wrap_id (by omega) (by omega)
  refine Ends.step (fun k => arboristref01_Hex.l0.eq_2 ..) ?_
  simp only [e1, e2, e3, e4, Int.toNat_natCast, hex_one (u % 16) hm, ba_app, ba_size, List.cons_append, List.nil_append, List.length_cons, List.length_nil]
  refine Ends.pos (by omega) (Ends.pos (by omega) (Ends.pos (by omega) (Ends.pos (by omega) (Ends.pos (by omega) hv))))
 have fin : ∀ (l : List UInt8), least ≤ l.length → Ends (fun k => arboristref01_Hex.l0 k ((0 : Nat) : Int) (least : Int) (ba l)) (ba l) := by
  intro l h
  refine Ends.step (fun k => arboristref01_Hex.l0.eq_2 ..) ?_
  simp only [ba_size]
  exact Ends.neg (by omega) (Ends.neg (by omega) (Ends.const _))
 induction f with
 | zero =>
  intro u acc h1 h2 h3 h4 h5
  have hu : u < 16 := by simpa using h2
  refine one u acc _ h1 h3 (by omega) ?_
  rw [Nat.div_eq_of_lt hu]
  simp only [hexL]
  rw [if_neg (by omega)] at h5
  exact fin _ (by simp only [List.length_cons]; omega)
 | succ f ih =>
  intro u acc h1 h2 h3 h4 h5
  refine one u acc _ h1 h3 (by omega) ?_
  by_cases hu : 16 ≤ u
  ·simp only [hexL, if_pos hu]
   rw [if_pos hu] at h5
   have h6 : u / 16 < 16 ^ (f + 1) := by rw [Nat.pow_succ] at h2; omega
   exact ih (u / 16) _ (by omega) h6 (by omega) (by simp only [List.length_cons]; omega) (by simp only [List.length_cons]; split <;> omega)
  ·rw [if_neg hu] at h5
   simp only [hexL, if_neg hu]
   rw [Nat.div_eq_of_lt (by omega), Nat.mod_eq_of_lt (by omega)]
   exact fin _ (by simp only [List.length_cons]; omega)
theorem refHex_ends (least u : Nat) (hu : u ≤ 1114111) (h : (least = 1) ∨ (least = 2 ∧ 16 ≤ u)) : Ends (fun k => arboristref01_Hex.f k (u : Int) (least : Int)) (ba (hexL 14 u [])) := by
 have hn : (⟨#[]⟩ : ByteArray) = ba [] := rfl
 by_cases h0 : u = 0
 ·subst h0
  obtain rfl : least = 1 := by omega
  refine Ends.of_mono (fun k => arboristref01_Hex.mono _ _ k) ⟨3, ?_⟩
  simp only [arboristref01_Hex.f]
  kernel_rfl
 ·refine (refHex_l0 least (by omega) 14 u [] (by omega) ?_ (by omega) (by simp) ?_).cast (fun k => by unfold arboristref01_Hex.f; rw [hn])
  ·have : (16 : Nat) ^ 15 = 1152921504606846976 := by decide
   omega
  ·split <;> simp <;> omega
def RuneOf (s : ByteArray) (x : S87) : Prop := ∃ pos, pos < s.size ∧ x = ⟨((Utf8.decode s pos).1 : Int), (pos : Int), ((Utf8.decode s pos).2 : Int)⟩
theorem runesFrom_of (s : ByteArray) (f : Nat) : ∀ pos, ∀ x ∈ runesFrom s f pos, RuneOf s x := by
 induction f with
 | zero => intro pos x hx; simp [runesFrom] at hx
 | succ f ih =>
  intro pos x hx
  simp only [runesFrom] at hx
  split at hx
  ·rename_i hp
   rcases List.mem_cons.1 hx with rfl | hx
   ·exact ⟨pos, hp, rfl⟩
   ·exact ih _ x hx
  ·simp at hx
theorem get_byte (s : ByteArray) (pos : Nat) (h : pos < s.size) : s.get! pos = s[pos]'h := get_at s pos h
theorem rune_ascii {s : ByteArray} {pos : Nat} (h : pos < s.size) (ha : (Utf8.decode s pos).1 < 128) : Utf8.decode s pos = ((s[pos]'h).toNat, 1) ∧ (s[pos]'h).toNat < 128 := by
 have hb : (s[pos]'h).toNat < 128 := by
  rcases Nat.lt_or_ge (s[pos]'h).toNat 128 with q | q
  ·exact q
  ·have := (decode_high s pos h q).1; omega
 exact ⟨decode_ascii s pos h hb, hb⟩
theorem ext_one (s : ByteArray) (pos : Nat) (h : pos < s.size) : s.extract pos (pos + 1) = ba [s[pos]'h] := by
 refine ba_ext ?_
 rw [ba_list, ByteArray.data_extract]
 have h2 : pos < s.data.toList.length := by simpa using h
 have e : s[pos]'h = s.data.toList[pos]'h2 := rfl
 rw [e]
 simp [List.take_one, List.drop_eq_getElem_cons h2]
theorem rune_w_bad (s : ByteArray) (pos : Nat) (h : pos < s.size) (hr : (Utf8.decode s pos).1 = 65533) (hw : (Utf8.decode s pos).2 = 1) : 128 ≤ (s[pos]'h).toNat := by
 rcases Nat.lt_or_ge (s[pos]'h).toNat 128 with q | q
 ·have := decode_ascii s pos h q
  rw [this] at hr
  simp only at hr
  omega
 ·exact q
theorem size_lit3 (l : List UInt8) (a b c : UInt8) : ((⟨#[a, b, c]⟩ : ByteArray) ++ ba l) = ba (a :: b :: c :: l) := ba_ext (by simp [ba])
theorem esc_step (s : ByteArray) (hs : s.size ≤ 1000000) (rs : List S87) (hlen : rs.length ≤ 1000000) (x : S87) (hx : RuneOf s x) (i : Nat) (hi : i < rs.length) (hrd : rd_T87 rs (i : Int) = x) (acc : List UInt8) (ha : acc.length ≤ 20 * i + 1) (v : ByteArray)
  (hv : Ends (fun k => arboristref01_Quote.l0 k s (ba (acc ++ escOf s x)) rs ((i + 1 : Nat) : Int)) v) : Ends (fun k => arboristref01_Quote.l0 k s (ba acc) rs (i : Int)) v := by
 obtain ⟨pos, hp, rfl⟩ := hx
 have w1 := rune_w_pos s pos
 have rl := Lib.rune_le s pos
 obtain ⟨r, hr⟩ : ∃ r, (Utf8.decode s pos).1 = r := ⟨_, rfl⟩
 obtain ⟨wd, hw⟩ : ∃ wd, (Utf8.decode s pos).2 = wd := ⟨_, rfl⟩
 have hbad := rune_w_bad s pos hp
 have hasc : r < 128 → (s[pos]'hp).toNat = r ∧ wd = 1 := fun q => by
  have := rune_ascii hp (by rw [hr]; exact q)
  rw [Prod.ext_iff] at this
  exact ⟨by rw [← hr, this.1.1], by rw [← hw, this.1.2]⟩
 have hget := get_byte s pos hp
 have hext := ext_one s pos hp
 have hbt : bt s (pos : Int) = ((s[pos]'hp).toNat : Int) := by unfold bt; rw [dif_pos (by simpa using hp)]; rfl
 rw [hr, hw] at hbad hv
 rw [hr] at rl
 rw [hr, hw] at hrd
 clear hr hw w1
 obtain ⟨c, hc⟩ : ∃ c, s[pos]'hp = c := ⟨_, rfl⟩
 rw [hc] at hget hext hbt hbad hasc
 clear hc
 have hc8 := c.toNat_lt
 have hpi : ((pos : Int)).toNat = pos := rfl
 have p1 : (pos : Int) < (s.size : Int) := by omega
 have p0 : (0 : Int) ≤ (pos : Int) := by omega
 have i1 : (i : Int) < (rs.length : Int) := by omega
 have i0 : (0 : Int) ≤ (i : Int) := by omega
 have q1 : (pos : Int) ≤ ((pos + 1 : Nat) : Int) := by omega
 have q2 : ((pos + 1 : Nat) : Int) ≤ (s.size : Int) := by omega
 have sz : (ba acc).size ≤ 20000001 := by rw [ba_size]; omega
 have n1 : i + 1 ≤ 4294967296 := by omega
 have n2 : pos + 1 ≤ 4294967296 := by omega
 have n3 : c.toNat ≤ 4294967296 := by omega
 have n4 : r ≤ 4294967296 := by omega
 have big : ∀ (e : List UInt8), e.length ≤ 30 → (ba acc).size + (ba e).size ≤ 9223372036854775807 := fun e h => by rw [ba_size e]; omega
 have hl1 := hexL_len 14 c.toNat []
 have hl2 := hexL_len 14 r []
 simp only [List.length_nil] at hl1 hl2
 have ew : wrap64 ((i : Int) + 1) = ((i + 1 : Nat) : Int) := (congrArg wrap64 (by push_cast; rfl)).trans (wrap_nat _ n1)
 have ep : wrap64 ((pos : Int) + 1) = ((pos + 1 : Nat) : Int) := (congrArg wrap64 (by push_cast; rfl)).trans (wrap_nat _ n2)
 have ec : wrap64 (c.toNat : Int) = (c.toNat : Int) := wrap_nat _ n3
 have er : wrap64 (r : Int) = (r : Int) := wrap_nat _ n4
 have EW := Aside0.mk ew
 have EP := Aside0.mk ep
 have EC := Aside0.mk ec
 have ER := Aside0.mk er
 clear ew ep ec er
 refine Ends.step (fun k => arboristref01_Quote.l0.eq_2 ..) ?_
 simp only [hrd, EW.out]
 refine Ends.pos i1 (Ends.pos i0 ?_)
 by_cases hb1 : r = 65533 ∧ wd = 1
 ·have hh := hbad hb1.1 hb1.2
  refine Ends.bind0 (a := true) (by unfold arboristref01_Invalid.f; rw [if_pos (by omega)]; simp [hb1.2]) (Ends.pos rfl (Ends.pos p0 (Ends.pos p1 ?_)))
  rw [hbt, EC.out]
  refine Ends.bind (refHex_ends 2 c.toNat (by omega) (.inr ⟨rfl, by omega⟩)) ?_
  have e3 : (⟨#[92, 120, 123]⟩ : ByteArray) ++ ba (hexL 14 c.toNat []) = ba (92 :: 120 :: 123 :: hexL 14 c.toNat []) := size_lit3 _ _ _ _
  have e4 : ba (92 :: 120 :: 123 :: hexL 14 c.toNat []) ++ (⟨#[125]⟩ : ByteArray) = ba (92 :: 120 :: 123 :: hexL 14 c.toNat [] ++ [125]) := ba_app _ _
  simp only [e3, e4]
  refine Ends.pos (by rw [ba_size]; omega) (Ends.pos (by rw [ba_size]; simp only [List.length_cons]; omega) (Ends.pos (big _ (by simp; omega)) ?_))
  rw [ba_app]
  have e5 : escOf s ⟨(r : Int), (pos : Int), (wd : Int)⟩ = 92 :: 120 :: 123 :: hexL 14 c.toNat [] ++ [125] := by
   unfold escOf
   rw [if_pos ⟨by simp [hb1.1], by simp [hb1.2]⟩]
   simp only [hpi, hget]
   rfl
  rw [e5] at hv
  exact hv
 ·refine Ends.bind0 (a := false) (by unfold arboristref01_Invalid.f; split <;> simp; omega) (Ends.neg (by decide) ?_)
  have jt : (r = 34 ∨ r = 92) → Ends (fun k => arboristref01_Quote.j1 k s (ba acc) rs (i : Int) (r : Int) true) v := fun hq => by
   obtain ⟨hcr, hw1⟩ := hasc (by omega)
   refine Ends.step (fun k => arboristref01_Quote.j1.eq_2 ..) ?_
   simp only [hrd, EW.out, EP.out, hpi, Int.toNat_natCast, hext]
   have e4 : (⟨#[92]⟩ : ByteArray) ++ ba [c] = ba [92, c] := ba_app _ _
   simp only [e4]
   refine Ends.pos trivial (Ends.pos i0 (Ends.pos i1 (Ends.pos p0 (Ends.pos q1 (Ends.pos q2 (Ends.pos (by rw [ba_size]; simp) (Ends.pos (big _ (by simp)) ?_)))))))
   rw [ba_app]
   have e5 : escOf s ⟨(r : Int), (pos : Int), (wd : Int)⟩ = [92, c] := by
    unfold escOf
    rw [if_neg (by simp; omega), if_neg (by simp; omega), if_neg (by simp; omega), if_neg (by simp; omega), if_pos (by simp; omega), ← hcr]
    simp
   rw [e5] at hv
   exact hv
  have jf : ¬ (r = 34 ∨ r = 92) → Ends (fun k => arboristref01_Quote.j1 k s (ba acc) rs (i : Int) (r : Int) false) v := fun hq => by
   refine Ends.step (fun k => arboristref01_Quote.j1.eq_2 ..) (Ends.neg (by decide) ?_)
   simp only [hrd, EW.out, EP.out, ER.out, hpi, Int.toNat_natCast, hext]
   by_cases h10 : r = 10
   ·have e5 : escOf s ⟨(r : Int), (pos : Int), (wd : Int)⟩ = [92, 110] := by
     unfold escOf
     rw [if_neg (by simp; omega), if_pos (by simp; omega)]
    rw [e5] at hv
    refine Ends.pos (by omega) (Ends.pos (by omega) ?_)
    exact hv.cast (fun k => by rw [← ba_app]; rfl)
   refine Ends.neg (by omega) ?_
   by_cases h13 : r = 13
   ·have e5 : escOf s ⟨(r : Int), (pos : Int), (wd : Int)⟩ = [92, 114] := by
     unfold escOf
     rw [if_neg (by simp; omega), if_neg (by simp; omega), if_pos (by simp; omega)]
    rw [e5] at hv
    refine Ends.pos (by omega) (Ends.pos (by omega) ?_)
    exact hv.cast (fun k => by rw [← ba_app]; rfl)
   refine Ends.neg (by omega) ?_
   by_cases h9 : r = 9
   ·have e5 : escOf s ⟨(r : Int), (pos : Int), (wd : Int)⟩ = [92, 116] := by
     unfold escOf
     rw [if_neg (by simp; omega), if_neg (by simp; omega), if_neg (by simp; omega), if_pos (by simp; omega)]
    rw [e5] at hv
    refine Ends.pos (by omega) (Ends.pos (by omega) ?_)
    exact hv.cast (fun k => by rw [← ba_app]; rfl)
   refine Ends.neg (by omega) ?_
   have hexed : (r < 32 ∨ 126 < r) → ∀ (F : Nat → ByteArray → Option ByteArray), F = (fun k t => if 3 + t.size ≤ 9223372036854775807 then (if ((⟨#[92, 117, 123]⟩ : ByteArray) ++ t).size + 1 ≤ 9223372036854775807 then (if (ba acc).size + (((⟨#[92, 117, 123]⟩ : ByteArray) ++ t) ++ (⟨#[125]⟩ : ByteArray)).size ≤ 9223372036854775807 then (arboristref01_Quote.l0 k s (ba acc ++ (((⟨#[92, 117, 123]⟩ : ByteArray) ++ t) ++ (⟨#[125]⟩ : ByteArray))) rs ((i + 1 : Nat) : Int)) else (none)) else (none)) else (none)) →
     Ends (fun k => (arboristref01_Hex.f k (r : Int) 1).bind (F k)) v := by
    rintro ho F rfl
    refine Ends.bind (refHex_ends 1 r rl (.inl rfl)) ?_
    have e3 : (⟨#[92, 117, 123]⟩ : ByteArray) ++ ba (hexL 14 r []) = ba (92 :: 117 :: 123 :: hexL 14 r []) := size_lit3 _ _ _ _
    have e4 : ba (92 :: 117 :: 123 :: hexL 14 r []) ++ (⟨#[125]⟩ : ByteArray) = ba (92 :: 117 :: 123 :: hexL 14 r [] ++ [125]) := ba_app _ _
    simp only [e3, e4]
    refine Ends.pos (by rw [ba_size]; omega) (Ends.pos (by rw [ba_size]; simp only [List.length_cons]; omega) (Ends.pos (big _ (by simp; omega)) ?_))
    rw [ba_app]
    have e5 : escOf s ⟨(r : Int), (pos : Int), (wd : Int)⟩ = 92 :: 117 :: 123 :: hexL 14 r [] ++ [125] := by
     unfold escOf
     rw [if_neg (by simp; omega), if_neg (by simp; omega), if_neg (by simp; omega), if_neg (by simp; omega), if_neg (by simp; omega), if_pos (by simp; omega)]
     simp only [Int.toNat_natCast]
     rfl
    rw [e5] at hv
    exact hv
   by_cases h32 : 32 ≤ r
   ·refine Ends.pos (by omega) ?_
    by_cases h126 : r ≤ 126
    ·obtain ⟨hcr, hw1⟩ := hasc (by omega)
     refine Ends.pos (by omega) (Ends.pos i0 (Ends.pos i1 (Ends.pos p0 (Ends.pos q1 (Ends.pos q2 (Ends.pos (big _ (by simp)) ?_))))))
     rw [ba_app]
     have e5 : escOf s ⟨(r : Int), (pos : Int), (wd : Int)⟩ = [c] := by
      unfold escOf
      rw [if_neg (by simp; omega), if_neg (by simp; omega), if_neg (by simp; omega), if_neg (by simp; omega), if_neg (by simp; omega), if_neg (by simp; omega), ← hcr]
      simp
     rw [e5] at hv
     exact hv
    ·exact Ends.neg (by omega) (hexed (.inr (by omega)) _ rfl)
   ·exact Ends.neg (by omega) (hexed (.inl (by omega)) _ rfl)
  by_cases h34 : r = 34
  ·exact Ends.pos (by omega) (jt (.inl h34))
  ·refine Ends.neg (by omega) ?_
   by_cases h92 : r = 92
   ·have e : ((r : Int) == 92) = true := by simp; omega
    rw [e]; exact jt (.inr h92)
   ·have e : ((r : Int) == 92) = false := by simp; omega
    rw [e]; exact jf (by omega)
theorem refQuote_l0 (s : ByteArray) (hs : s.size ≤ 1000000) (rs : List S87) (hrs : ∀ x ∈ rs, RuneOf s x) (hlen : rs.length ≤ 1000000) : ∀ (rest : List S87) (i : Nat) (acc : List UInt8), rs.drop i = rest → i ≤ rs.length → acc.length ≤ 20 * i + 1 →
  Ends (fun k => arboristref01_Quote.l0 k s (ba acc) rs (i : Int)) (ba (acc ++ rest.flatMap (escOf s)) ++ ⟨#[34]⟩) := by
 intro rest
 induction rest with
 | nil =>
  intro i acc hd hil ha
  have := drop_nil hd
  refine Ends.step (fun k => arboristref01_Quote.l0.eq_2 ..) (Ends.neg (by omega) (Ends.pos (by rw [ba_size]; omega) ?_))
  simp only [List.flatMap_nil, List.append_nil]
  exact Ends.const _
 | cons x rest ih =>
  intro i acc hd hil ha
  obtain ⟨hi, hr, hx⟩ := drop_cons hd
  have e1 : rd_T87 rs (i : Int) = x := by unfold rd_T87; simpa using hx _
  have hm : x ∈ rs := by
   have : x ∈ rs.drop i := by rw [hd]; exact List.mem_cons_self
   exact List.mem_of_mem_drop this
  refine esc_step s hs rs hlen x (hrs x hm) i hi e1 acc ha _ ?_
  have hl := escOf_len s x
  refine (ih (i + 1) (acc ++ escOf s x) hr (by omega) (by simp only [List.length_append]; omega)).val ?_
  simp only [List.flatMap_cons, List.append_assoc]
theorem refQuote_ends (s : ByteArray) (hs : s.size ≤ 1000000) : Ends (fun k => arboristref01_Quote.f k s) (ba (quoteB s (runesL s) ++ [34])) := by
 unfold arboristref01_Quote.f
 refine Ends.bind (Ends.of_mono (fun k => arboristref01_Runes.mono s k) (refRunes_ends s hs)) ?_
 have := refQuote_l0 s hs (runesL s) (fun x hx => runesFrom_of s s.size 0 x hx) (Nat.le_trans (runesL_len s) hs) (runesL s) 0 [34] rfl (by omega) (by simp)
 refine this.val ?_
 have e : (⟨#[34]⟩ : ByteArray) = ba [34] := rfl
 rw [e, ba_app]
 rfl
end
section
open Go.Proofs.YtphmgaijkdflnaaDoorW.PrintWords Go.Proofs.YtphmgaijkdflnaaDoorW.PrintLast Go.Proofs.YtphmgaijkdflnaaDoorW.PrintMore
def quoteV (t : ByteArray) : ByteArray := ba (quoteB t (runesL t) ++ [34])
theorem quote_val (t : ByteArray) (h : t.size ≤ 4398046511104) : text_Quote.f t = some (quoteV t) := by
 unfold text_Quote.f quoteV
 rw [if_pos h]
 exact congrArg some (ba_app _ [34])
theorem quote_size (t : ByteArray) : (quoteV t).size ≤ 20 * t.size + 2 := by
 have h : ∀ l : List S87, (l.flatMap (escOf t)).length ≤ 20 * l.length := by
  intro l
  induction l with
  | nil => simp
  | cons x r ih => have := escOf_len t x; simp only [List.flatMap_cons, List.length_append, List.length_cons]; omega
 have h1 := h (runesL t)
 have h2 := runesL_len t
 unfold quoteV quoteB
 rw [ba_size]
 simp only [List.length_append, List.length_cons, List.length_nil]
 omega
section
variable (l0 l1 : List ByteArray)
mutual
def showV : S26 → ByteArray
 | ⟨f0, f1, f2, f3, f4, f5, ks⟩ => if f0 = 0 then ⟨#[36, 101, 110, 100]⟩ else if 0 < f0 then (if f3 = 1 then (⟨#[33]⟩ : ByteArray) ++ symS l0 l1 f0 else quoteV f5)
  else ba ((if f3 = 2 then [40, 33] else [40]) ++ (symS l0 l1 f0).data.toList ++ showVL ks ++ [41])
def showVL : List S26 → List UInt8
 | [] => []
 | k :: r => 32 :: (showV k).data.toList ++ showVL r
end
theorem showV_eq (x : S26) : showV l0 l1 x = if x.f0 = 0 then ⟨#[36, 101, 110, 100]⟩ else if 0 < x.f0 then (if x.f3 = 1 then (⟨#[33]⟩ : ByteArray) ++ symS l0 l1 x.f0 else quoteV x.f5)
  else ba ((if x.f3 = 2 then [40, 33] else [40]) ++ (symS l0 l1 x.f0).data.toList ++ showVL l0 l1 x.f6 ++ [41]) := by
 cases x; simp only [showV]
end
theorem dlen (s : ByteArray) : s.data.toList.length = s.size := by rw [Array.length_toList]; rfl
section
variable {l0 l1 : List ByteArray}
theorem showVL_len : ∀ l : List S26, (∀ y ∈ l, (showV l0 l1 y).size + 1 ≤ 1200000 * (preN y).length) → (showVL l0 l1 l).length ≤ 1200000 * (preL l).length := by
 intro l
 induction l with
 | nil => intro _; simp [showVL]
 | cons k r ih =>
  intro h
  have h1 := h k List.mem_cons_self
  have h2 := ih fun y hy => h y (List.mem_cons_of_mem _ hy)
  simp only [showVL, preL, List.length_append, List.length_cons, dlen]
  omega
variable (b0 : ∀ y ∈ l0, y.size ≤ 1048576) (b1 : ∀ y ∈ l1, y.size ≤ 1048576)
include b0 b1
theorem showV_size (x : S26) (hw : wN x ≤ 300) : (showV l0 l1 x).size + 1 ≤ 1200000 * (preN x).length := by
 revert hw
 refine node_ind (P := fun x => wN x ≤ 300 → (showV l0 l1 x).size + 1 ≤ 1200000 * (preN x).length) (fun x ih hw => ?_) x
 have hl := showVL_len x.f6 fun y hy => ih y hy (by have := wN_kid hy; omega)
 have ht : x.f5.size / 16 ≤ 300 := by have := wN_eq x; omega
 have hq := quote_size x.f5
 have hn := sym_size b0 b1 x.f0
 have hp : (preN x).length = (preL x.f6).length + 1 := by rw [preN_eq, List.length_cons]
 rw [showV_eq, hp]
 split
 ·exact Nat.le_trans (by decide : ((⟨#[36, 101, 110, 100]⟩ : ByteArray).size + 1 ≤ 100)) (by omega)
 ·split
  ·split
   ·rw [ByteArray.size_append]
    have : (⟨#[33]⟩ : ByteArray).size = 1 := rfl
    omega
   ·omega
  ·rw [ba_size]
   simp only [List.length_append, List.length_cons, List.length_nil, dlen]
   split <;> simp only [List.length_cons, List.length_nil] <;> omega
end
section
variable (l0_0 l0_1 : List ByteArray) (l0_2 : List Int) (l0_3 : List S58) (l0_4 : List S61)
theorem bput_some {acc : List UInt8} {s : ByteArray} (h : acc.length + s.size ≤ 140737488355328) : bput acc s = some (acc ++ s.data.toList) := by
 unfold bput; rw [if_pos h]
theorem showL_val : ∀ (l : List S26) (acc : List UInt8), (∀ y ∈ l, showN l0_0 l0_1 l0_2 l0_3 l0_4 y = some (showV l0_0 l0_1 y)) → acc.length + (showVL l0_0 l0_1 l).length ≤ 140737488355328 → showL l0_0 l0_1 l0_2 l0_3 l0_4 acc l = some (acc ++ showVL l0_0 l0_1 l) := by
 intro l
 induction l with
 | nil => intro acc _ _; simp [showL, showVL]
 | cons k r ih =>
  intro acc h hb
  simp only [showVL, List.length_append, List.length_cons, dlen] at hb
  have z : ((⟨#[32]⟩ : ByteArray) ++ showV l0_0 l0_1 k).size = 1 + (showV l0_0 l0_1 k).size := by rw [ByteArray.size_append]; rfl
  simp only [showL]
  rw [h k List.mem_cons_self, Option.bind_some, bput_some (by rw [z]; omega), Option.bind_some, ih _ (fun y hy => h y (List.mem_cons_of_mem _ hy)) (by rw [List.length_append, dlen, z]; omega)]
  simp [showVL, ByteArray.data_append]
theorem show_val (h1 : l0_1.length ≤ 140737488355328) (b0 : ∀ y ∈ l0_0, y.size ≤ 1048576) (b1 : ∀ y ∈ l0_1, y.size ≤ 1048576) (x : S26) (hw : wN x ≤ 300) : showN l0_0 l0_1 l0_2 l0_3 l0_4 x = some (showV l0_0 l0_1 x) := by
 revert hw
 refine node_ind (P := fun x => wN x ≤ 300 → showN l0_0 l0_1 l0_2 l0_3 l0_4 x = some (showV l0_0 l0_1 x)) (fun x ih hw => ?_) x
 have hl := showVL_len x.f6 fun y hy => showV_size b0 b1 y (by have := wN_kid hy; omega)
 have ht : x.f5.size / 16 ≤ 300 := by have := wN_eq x; omega
 have hn := sym_size b0 b1 x.f0
 have hlen : (preL x.f6).length ≤ 300 := by have := pre_len x; rw [preN_eq, List.length_cons] at this; omega
 rw [showN_eq, showV_eq, sym_all h1, Option.bind_some]
 by_cases h0 : x.f0 = 0
 ·rw [if_pos h0, if_pos h0]
 rw [if_neg h0, if_neg h0]
 by_cases hp : 0 < x.f0
 ·rw [if_pos hp, if_pos hp]
  by_cases h3 : x.f3 = 1
  ·rw [if_pos h3, if_pos h3, if_pos (by omega)]
  ·rw [if_neg h3, if_neg h3, quote_val _ (by omega)]
 rw [if_neg hp, if_neg hp]
 have hz : (if x.f3 = 2 then ([40, 33] : List UInt8) else [40]).length ≤ 2 := by split <;> simp
 rw [bput_some (by omega), Option.bind_some, showL_val _ _ _ _ _ _ _ (fun y hy => ih y hy (by have := wN_kid hy; omega)) (by rw [List.length_append, dlen]; omega), Option.bind_some, bput_some (by simp only [List.length_append, dlen]; have : (⟨#[41]⟩ : ByteArray).size = 1 := rfl; omega)]
 rfl
theorem rshow_l0t (y : S26) (hk : y.f6.length ≤ 140737488355328) (ih : ∀ p ∈ y.f6, Ends (fun k => arboristref42_Show.f k l0_0 l0_1 l0_2 l0_3 l0_4 p.f0 p.f1 p.f2 p.f3 p.f4 p.f5 p.f6) (showV l0_0 l0_1 p)) : ∀ (r : List S26) (i : Nat) (acc : List UInt8), y.f6.drop i = r → i ≤ y.f6.length → acc.length + (showVL l0_0 l0_1 r).length ≤ 140737488355328 →
  Ends (fun k => arboristref42_Show.l0 k (ba acc) (i : Int) l0_0 l0_1 l0_2 l0_3 l0_4 y.f0 y.f1 y.f2 y.f3 y.f4 y.f5 y.f6) (ba (acc ++ showVL l0_0 l0_1 r ++ [41])) := by
 intro r
 induction r with
 | nil =>
  intro i acc hr hi hb
  have e := tdrop_nil hr hi
  simp only [showVL, List.length_nil] at hb
  refine Ends.step (fun k => arboristref42_Show.l0.eq_2 ..) (Ends.neg (by omega) (Ends.pos (by rw [ba_size]; omega) ((Ends.const _).val ?_)))
  rw [show (⟨#[41]⟩ : ByteArray) = ba [41] from rfl, ba_app, showVL, List.append_nil]
 | cons p r ihr =>
  intro i acc hr hi hb
  obtain ⟨hlt, hp, hr2⟩ := tdrop_cons hr
  simp only [showVL, List.length_append, List.length_cons, dlen] at hb
  have e32 : (ba acc ++ (⟨#[32]⟩ : ByteArray)) = ba (acc ++ [32]) := ba_app acc [32]
  have e2 : ba (acc ++ [32]) ++ showV l0_0 l0_1 p = ba (acc ++ [32] ++ (showV l0_0 l0_1 p).data.toList) := by
   conv => lhs; rw [ba_of (showV l0_0 l0_1 p)]
   exact ba_app _ _
  refine Ends.step (fun k => arboristref42_Show.l0.eq_2 ..) (Ends.pos (by omega) (Ends.pos (by rw [ba_size]; omega) (Ends.pos (by omega) ?_)))
  rw [rdN _ _ hlt, hp, wrap_succ i (by omega), e32]
  refine Ends.bind (ih p (hp ▸ List.getElem_mem hlt)) (Ends.pos (by rw [ba_size]; simp only [List.length_append, List.length_cons, List.length_nil]; omega) ?_)
  rw [e2]
  refine (ihr (i + 1) (acc ++ [32] ++ (showV l0_0 l0_1 p).data.toList) hr2 hlt (by simp only [List.length_append, List.length_cons, List.length_nil, dlen]; omega)).val ?_
  simp [showVL]
theorem rshow_tree (h1 : l0_1.length ≤ 140737488355328) (b0 : ∀ y ∈ l0_0, y.size ≤ 1048576) (b1 : ∀ y ∈ l0_1, y.size ≤ 1048576) (x : S26) (hx : ok26 x) (hw : wN x ≤ 300) :
  Ends (fun k => arboristref42_Show.f k l0_0 l0_1 l0_2 l0_3 l0_4 x.f0 x.f1 x.f2 x.f3 x.f4 x.f5 x.f6) (showV l0_0 l0_1 x) := by
 revert hx hw
 refine node_ind (P := fun x => ok26 x → wN x ≤ 300 → Ends (fun k => arboristref42_Show.f k l0_0 l0_1 l0_2 l0_3 l0_4 x.f0 x.f1 x.f2 x.f3 x.f4 x.f5 x.f6) (showV l0_0 l0_1 x)) (fun x ih hx hw => ?_) x
 have hl := showVL_len x.f6 fun y hy => showV_size b0 b1 y (by have := wN_kid hy; omega)
 have ht : x.f5.size / 16 ≤ 300 := by have := wN_eq x; omega
 have hn := sym_size b0 b1 x.f0
 have hlen : (preL x.f6).length ≤ 300 := by have := pre_len x; rw [preN_eq, List.length_cons] at this; omega
 have hxo := okN hx
 have hkl := hxo.kids
 have hsn : ∀ l : List UInt8, ba l ++ symS l0_0 l0_1 x.f0 = ba (l ++ (symS l0_0 l0_1 x.f0).data.toList) := fun l => by
  conv => lhs; rw [ba_of (symS l0_0 l0_1 x.f0)]
  exact ba_app _ _
 rw [showV_eq]
 refine Ends.step (fun k => arboristref42_Show.f.eq_2 ..) ?_
 by_cases h0 : x.f0 = 0
 ·rw [if_pos h0]; exact Ends.pos h0 (Ends.const _)
 rw [if_neg h0]
 refine Ends.neg h0 ?_
 by_cases hp : 0 < x.f0
 ·rw [if_pos hp]
  refine Ends.pos hp (Ends.step (fun k => arboristref42_Show.j0.eq_2 ..) ?_)
  by_cases h3 : x.f3 = 1
  ·rw [if_pos h3]
   refine Ends.pos (by simp [h3]) (Ends.bind0 (rsym_all h1 _) (Ends.pos (by omega) (Ends.const _)))
  ·rw [if_neg h3]
   exact Ends.neg (by simpa using h3) (Ends.pos hp (Ends.bind (refQuote_ends x.f5 (by omega)) (Ends.const _)))
 rw [if_neg hp]
 refine Ends.neg hp (Ends.step (fun k => arboristref42_Show.j0.eq_2 ..) (Ends.neg (by simp) (Ends.neg hp ?_)))
 have go : ∀ h : List UInt8, h.length ≤ 2 → Ends (fun k => arboristref42_Show.j1 k (ba h) l0_0 l0_1 l0_2 l0_3 l0_4 x.f0 x.f1 x.f2 x.f3 x.f4 x.f5 x.f6) (ba (h ++ (symS l0_0 l0_1 x.f0).data.toList ++ showVL l0_0 l0_1 x.f6 ++ [41])) := by
  intro h hh
  refine Ends.step (fun k => arboristref42_Show.j1.eq_2 ..) (Ends.bind0 (rsym_all h1 _) (Ends.pos (by rw [ba_size]; omega) ?_))
  rw [hsn]
  exact rshow_l0t l0_0 l0_1 l0_2 l0_3 l0_4 x hkl (fun p hp => ih p hp (hxo.each p hp) (by have := wN_kid hp; omega)) x.f6 0 _ rfl (by omega) (by rw [List.length_append, dlen]; omega)
 by_cases h2 : x.f3 = 2
 ·rw [if_pos h2]; exact Ends.pos h2 (go [40, 33] (by simp))
 ·rw [if_neg h2]; exact Ends.neg h2 (go [40] (by simp))
end
end
section
open Go.Proofs.YtphmgaijkdflnaaDoorW.PrintWords Go.Proofs.YtphmgaijkdflnaaDoorW.PrintLast Go.Proofs.YtphmgaijkdflnaaDoorW.PrintMore
theorem Ends.ite' {α : Type} {c : Prop} {d : Decidable c} {f g : Nat → Option α} {v : α} (h1 : c → Ends f v) (h2 : ¬ c → Ends g v) : Ends (fun k => @ite _ c d (f k) (g k)) v := by
 by_cases h : c
 ·exact Ends.pos h (h1 h)
 ·exact Ends.neg h (h2 h)
section
variable (l0_0 l0_1 : List ByteArray) (l0_2 : List Int) (l0_3 : List S58) (l0_4 : List S61)
def triG (p : S46) : Bool := ((decide (p.f0 = 1) && decide (0 ≤ p.f1)) || (decide (p.f0 = 2) && decide (p.f1 = -1)) || (decide (p.f0 = 3) && (decide (2 ≤ p.f1) && decide (p.f1 < l0_0.length)))) && !(decide (p.f2.toList = []))
theorem triG_yes {p : S46} (h : (p.f0 = 1 ∧ 0 ≤ p.f1) ∨ (p.f0 = 2 ∧ p.f1 = -1) ∨ (p.f0 = 3 ∧ 2 ≤ p.f1 ∧ p.f1 < (l0_0.length : Int))) (ht : ¬ p.f2.toList = []) : triG l0_0 p = true := by
 unfold triG
 simp only [Bool.and_eq_true, Bool.or_eq_true, decide_eq_true_eq, Bool.not_eq_true', decide_eq_false_iff_not]
 exact ⟨by omega, ht⟩
theorem triG_no1 {p : S46} (h : ¬ ((p.f0 = 1 ∧ 0 ≤ p.f1) ∨ (p.f0 = 2 ∧ p.f1 = -1) ∨ (p.f0 = 3 ∧ 2 ≤ p.f1 ∧ p.f1 < (l0_0.length : Int)))) : triG l0_0 p = false := by
 unfold triG
 rw [Bool.eq_false_iff]
 simp only [ne_eq, Bool.and_eq_true, Bool.or_eq_true, decide_eq_true_eq]
 intro q
 exact h (by omega)
theorem triG_no2 {p : S46} (h : p.f2.toList = []) : triG l0_0 p = false := by
 unfold triG
 rw [decide_eq_true h]; simp
theorem iffB {a : List UInt8} {z : Int} : ((a == ([] : List UInt8)) == (z == 0)) = true ↔ ((a = []) ↔ (z = 0)) := by
 rw [show (a == ([] : List UInt8)) = decide (a = []) from Bool.eq_iff_iff.2 (by rw [beq_iff_eq, decide_eq_true_eq]), show (z == 0) = decide (z = 0) from Bool.eq_iff_iff.2 (by rw [beq_iff_eq, decide_eq_true_eq])]
 by_cases h : a = [] <;> by_cases k : z = 0 <;> simp [h, k]
theorem glead_l0 (l : List S46) (hl : l.length ≤ 140737488355328) : ∀ (r : List S46) (i : Nat), l.drop i = r → i ≤ l.length → Ends (fun k => cst_rightLead.l0 k l (l.length : Int) (i : Int) l0_0 l0_1 l0_2 l0_3 l0_4) (r.all (triG l0_0)) := by
 intro r
 induction r with
 | nil =>
  intro i hr hi
  have e := tdrop_nil hr hi
  exact Ends.step (fun k => cst_rightLead.l0.eq_2 ..) (Ends.neg (by omega) (Ends.const _))
 | cons p r ihr =>
  intro i hr hi
  obtain ⟨hlt, hp, hr2⟩ := tdrop_cons hr
  have h3 := ihr (i + 1) hr2 hlt
  rw [← wrap_succ i (by omega)] at h3
  refine Ends.step (fun k => cst_rightLead.l0.eq_2 ..) (Ends.pos (by omega) (Ends.pos (by omega) (Ends.pos (by omega) ?_)))
  rw [rdT _ _ hlt, hp, List.all_cons]
  have yes : triG l0_0 p = true → Ends (fun k => cst_rightLead.l0 k l (l.length : Int) (wrap64 ((i : Int) + 1)) l0_0 l0_1 l0_2 l0_3 l0_4) (triG l0_0 p && r.all (triG l0_0)) := fun h => h3.val (by rw [h, Bool.true_and])
  have no : triG l0_0 p = false → Ends (fun _ => some false) (triG l0_0 p && r.all (triG l0_0)) := fun h => (Ends.const _).val (by rw [h, Bool.false_and])
  repeat' (refine Ends.ite' (fun _ => ?_) (fun _ => ?_))
  all_goals first
   | exact yes (triG_yes l0_0 (by omega) (by assumption))
   | exact no (triG_no2 l0_0 (by assumption))
   | exact no (triG_no1 l0_0 (by omega))
   | (exfalso; omega)
theorem glead_ends (l : List S46) (hl : l.length ≤ 140737488355328) : Ends (fun k => cst_rightLead.f k l0_0 l0_1 l0_2 l0_3 l0_4 l) (l.all (triG l0_0)) := glead_l0 l0_0 l0_1 l0_2 l0_3 l0_4 l hl l 0 rfl (by omega)
def leafG (y : S26) : Bool := decide (y.f1 = -1) && (decide (y.f6 = []) && (decide (y.f0 < l0_0.length) && (decide (y.f0 ≠ 1) &&
 (if y.f3 = 1 then decide (y.f0 ≠ 0) && (decide (y.f4 = []) && decide (y.f5.toList = [])) else decide (y.f3 = 0) && (decide ((y.f5.toList = []) ↔ (y.f0 = 0)) && y.f4.all (triG l0_0))))))
theorem gleaf_ends (y : S26) (hy : OkN y) : Ends (fun k => cst_rightLeaf.f k l0_0 l0_1 l0_2 l0_3 l0_4 y.f0 y.f1 y.f2 y.f3 y.f4 y.f5 y.f6) (leafG l0_0 y) := by
 unfold cst_rightLeaf.f leafG
 have jt : ∀ {b : Bool}, b = false → Ends (fun k => cst_rightLeaf.j0 k true l0_0 l0_1 l0_2 l0_3 l0_4 y.f0 y.f1 y.f2 y.f3 y.f4 y.f5 y.f6) b := fun h => h ▸ Ends.step (fun k => cst_rightLeaf.j0.eq_2 ..) (Ends.pos rfl (Ends.const _))
 by_cases h1 : y.f1 = -1
 case neg => exact Ends.neg h1 (jt (by simp [h1]))
 by_cases h6 : y.f6 = []
 case neg => exact Ends.pos h1 (Ends.pos (by have := List.length_pos_iff.2 h6; omega) (jt (by simp [h6])))
 by_cases h0 : y.f0 < (l0_0.length : Int)
 case neg => exact Ends.pos h1 (Ends.neg (by rw [h6]; simp) (Ends.pos (by omega) (jt (by simp [h0]))))
 refine Ends.pos h1 (Ends.neg (by rw [h6]; simp) (Ends.neg (by omega) ?_))
 by_cases hs : y.f0 = 1
 ·rw [show (y.f0 == 1) = true by simpa using hs]; exact jt (by simp [hs])
 rw [show (y.f0 == 1) = false by simpa using hs]
 refine Ends.step (fun k => cst_rightLeaf.j0.eq_2 ..) (Ends.neg (by simp) ?_)
 by_cases h3 : y.f3 = 1
 ·refine Ends.pos h3 ?_
  by_cases z : y.f0 = 0
  ·exact Ends.pos z ((Ends.const _).val (by simp [h3, z]))
  ·refine Ends.neg z ?_
   by_cases h4 : y.f4 = []
   ·refine Ends.pos (by rw [h4]; rfl) ((Ends.const _).val ?_)
    by_cases e : y.f5.toList = [] <;> simp [h1, h6, h0, hs, h3, z, h4, e]
   ·refine Ends.neg (by have := List.length_pos_iff.2 h4; omega) ((Ends.const _).val ?_)
    simp [h3, h4]
 ·refine Ends.neg h3 ?_
  by_cases z : y.f3 = 0
  ·refine Ends.pos z ?_
   by_cases e : (y.f5.toList = []) ↔ (y.f0 = 0)
   ·refine Ends.pos (iffB.2 e) (Ends.bind (glead_ends l0_0 l0_1 l0_2 l0_3 l0_4 y.f4 hy.lead) ((Ends.const _).val ?_))
    simp [h1, h6, h0, hs, z, e]
   ·refine Ends.neg (fun q => e (iffB.1 q)) ((Ends.const _).val ?_)
    simp [h3, e]
  ·refine Ends.neg z ((Ends.const _).val ?_)
   simp [h3, z]
theorem rdI (l : List Int) (i : Nat) (h : i < l.length) : rd l (i : Int) = l[i] := by simp [rd, List.getD_eq_getElem?_getD, h]
theorem rdR (l : List S58) (i : Nat) (h : i < l.length) : rd_T58 l (i : Int) = l[i] := by simp [rd_T58, List.getD_eq_getElem?_getD, h]
theorem ginner_l0 (y : S26) (rr : List Int) (hl : rr.length ≤ 140737488355328) (he : rr.length = y.f6.length) : ∀ (r : List Int) (i : Nat), rr.drop i = r → i ≤ rr.length → Ends (fun k => cst_rightInner.l0 k rr (rr.length : Int) (i : Int) y.f0 y.f1 y.f2 y.f3 y.f4 y.f5 y.f6) (decide (r = (y.f6.drop i).map (·.f0))) := by
 intro r
 induction r with
 | nil =>
  intro i hr hi
  have e := tdrop_nil hr hi
  refine Ends.step (fun k => cst_rightInner.l0.eq_2 ..) (Ends.neg (by omega) ((Ends.const _).val ?_))
  rw [e, he, List.drop_length]; simp
 | cons p r ihr =>
  intro i hr hi
  obtain ⟨hlt, hp, hr2⟩ := tdrop_cons hr
  have hlt2 : i < y.f6.length := by omega
  refine Ends.step (fun k => cst_rightInner.l0.eq_2 ..) (Ends.pos (by omega) (Ends.pos (by omega) (Ends.pos (by omega) (Ends.pos (by omega) ?_))))
  rw [rdN _ _ hlt2, rdI _ _ hlt, hp, wrap_succ i (by omega), List.drop_eq_getElem_cons hlt2, List.map_cons]
  by_cases h : y.f6[i].f0 = p
  ·refine Ends.pos h ((ihr (i + 1) hr2 hlt).val ?_)
   rw [decide_eq_decide, List.cons.injEq]; simp [h]
  ·refine Ends.neg h ((Ends.const _).val ?_)
   symm; rw [decide_eq_false_iff_not, List.cons.injEq]; exact fun q => h q.1.symm
def innerG (y : S26) : Bool := decide (-1 - y.f0 < l0_1.length) && (decide (y.f4 = []) && (decide (y.f5.toList = []) &&
 (if y.f3 = 2 then decide (y.f1 = -1) else decide (y.f3 = 0) && (decide (0 ≤ y.f1) && (decide (y.f1 < l0_3.length) && (decide ((rd_T58 l0_3 y.f1).f0 = -1 - y.f0) && decide ((rd_T58 l0_3 y.f1).f1 = y.f6.map (·.f0))))))))
theorem ginner_ends (hr3 : ∀ z ∈ l0_3, z.f1.length ≤ 140737488355328) (y : S26) (hy : OkN y) (hn : y.f0 < 0) : Ends (fun k => cst_rightInner.f k l0_0 l0_1 l0_2 l0_3 l0_4 y.f0 y.f1 y.f2 y.f3 y.f4 y.f5 y.f6) (innerG l0_1 l0_3 y) := by
 have hk := hy.kids
 have h00 := hy.s0
 have hw : wrap64 (-1 - y.f0) = -1 - y.f0 := by unfold wrap64; omega
 unfold cst_rightInner.f innerG
 rw [hw]
 have jt : ∀ {b : Bool}, b = false → Ends (fun k => cst_rightInner.j0 k true l0_0 l0_1 l0_2 l0_3 l0_4 y.f0 y.f1 y.f2 y.f3 y.f4 y.f5 y.f6) b := fun h => h ▸ Ends.step (fun k => cst_rightInner.j0.eq_2 ..) (Ends.pos rfl (Ends.const _))
 have jt1 : ∀ {b : Bool}, b = false → Ends (fun k => cst_rightInner.j1 k true l0_0 l0_1 l0_2 l0_3 l0_4 y.f0 y.f1 y.f2 y.f3 y.f4 y.f5 y.f6) b := fun h => h ▸ Ends.step (fun k => cst_rightInner.j1.eq_2 ..) (Ends.pos rfl (Ends.const _))
 by_cases h1 : -1 - y.f0 < l0_1.length
 case neg => exact Ends.pos (by omega) (jt (by simp [h1]))
 refine Ends.neg (by omega) ?_
 by_cases h4 : y.f4 = []
 case neg => exact Ends.pos (by have := List.length_pos_iff.2 h4; omega) (jt (by simp [h4]))
 refine Ends.neg (by rw [h4]; simp) ?_
 by_cases h5 : y.f5.toList = []
 case neg => rw [show (y.f5.toList != ([] : List UInt8)) = true by simpa using h5]; exact jt (by simp [h5])
 rw [show (y.f5.toList != ([] : List UInt8)) = false by simpa using h5]
 refine Ends.step (fun k => cst_rightInner.j0.eq_2 ..) (Ends.neg (by simp) ?_)
 by_cases h3 : y.f3 = 2
 ·exact Ends.pos h3 ((Ends.const _).val (by simp [h1, h4, h5, h3]; rfl))
 refine Ends.neg h3 ?_
 by_cases z : y.f3 = 0
 case neg => exact Ends.neg z (jt1 (by simp [h3, z]))
 refine Ends.pos z ?_
 by_cases g0 : 0 ≤ y.f1
 case neg => exact Ends.pos (by omega) (jt1 (by simp [h3, g0]))
 refine Ends.neg (by omega) ?_
 by_cases g1 : y.f1 < (l0_3.length : Int)
 case neg => rw [decide_eq_true (show y.f1 ≥ (l0_3.length : Int) by omega)]; exact jt1 (by simp [h3, g1])
 rw [decide_eq_false (show ¬ y.f1 ≥ (l0_3.length : Int) by omega)]
 refine Ends.step (fun k => cst_rightInner.j1.eq_2 ..) (Ends.neg (by simp) (Ends.pos g0 (Ends.pos g1 ?_)))
 have hmem : rd_T58 l0_3 y.f1 ∈ l0_3 := by
  obtain ⟨i, hi⟩ : ∃ i : Nat, y.f1 = (i : Int) := ⟨y.f1.toNat, by omega⟩
  rw [hi, rdR _ _ (by omega)]
  exact List.getElem_mem _
 have hrl := hr3 _ hmem
 obtain ⟨R, hR⟩ : ∃ R, rd_T58 l0_3 y.f1 = R := ⟨_, rfl⟩
 rw [hR] at hrl ⊢
 rw [hw]
 by_cases q : R.f0 = -1 - y.f0
 ·refine Ends.pos q ?_
  by_cases e : R.f1.length = y.f6.length
  ·refine Ends.step (fun k => cst_rightInner.j2.eq_2 ..) (Ends.neg (by simp; omega) ((ginner_l0 y R.f1 hrl e R.f1 0 rfl (by omega)).val ?_))
   simp [h1, h4, h5, h3, z, g0, g1, q]
  ·refine Ends.step (fun k => cst_rightInner.j2.eq_2 ..) (Ends.pos (by simp; omega) ((Ends.const _).val ?_))
   have : ¬ R.f1 = y.f6.map (·.f0) := fun h => e (by rw [h, List.length_map])
   simp [h3, this]
 ·exact Ends.neg q (Ends.step (fun k => cst_rightInner.j2.eq_2 ..) (Ends.pos rfl ((Ends.const _).val (by simp [h3, q]))))
def okG (y : S26) : Bool := decide (0 ≤ y.f2) && (decide (y.f0 ≠ 0) && (decide (y.f0 ≠ -1) && (if 0 < y.f0 then leafG l0_0 y else innerG l0_1 l0_3 y)))
theorem gok_ends (hr3 : ∀ z ∈ l0_3, z.f1.length ≤ 140737488355328) (y : S26) (hy : OkN y) : Ends (fun k => okGo k l0_0 l0_1 l0_2 l0_3 l0_4 y) (okG l0_0 l0_1 l0_3 y) := by
 unfold okGo okG
 by_cases h2 : y.f2 < 0
 ·exact Ends.pos h2 ((Ends.const _).val (by simp; intro h; omega))
 refine Ends.neg h2 ?_
 by_cases h0 : y.f0 = 0
 ·exact Ends.pos h0 ((Ends.const _).val (by simp [h0]))
 refine Ends.neg h0 ?_
 by_cases h1 : y.f0 = -1
 ·exact Ends.pos h1 ((Ends.const _).val (by simp [h1]))
 refine Ends.neg h1 ?_
 have e2 : decide (0 ≤ y.f2) = true := decide_eq_true (by omega)
 by_cases h : 0 < y.f0
 ·exact Ends.pos h ((gleaf_ends l0_0 l0_1 l0_2 l0_3 l0_4 y hy).val (by rw [if_pos h, e2]; simp [h0, h1]))
 ·exact Ends.neg h ((ginner_ends l0_0 l0_1 l0_2 l0_3 l0_4 hr3 y hy (by omega)).val (by rw [if_neg h, e2]; simp [h0, h1]))
theorem gall_ends (hr3 : ∀ z ∈ l0_3, z.f1.length ≤ 140737488355328) : ∀ l : List S26, (∀ y ∈ l, OkN y) → Ends (fun k => allGo k l0_0 l0_1 l0_2 l0_3 l0_4 l) (l.all (okG l0_0 l0_1 l0_3))
 | [], _ => Ends.const _
 | y :: r, h => by
  unfold allGo
  refine Ends.bind (gok_ends l0_0 l0_1 l0_2 l0_3 l0_4 hr3 y (h y List.mem_cons_self)) ?_
  rw [List.all_cons]
  cases okG l0_0 l0_1 l0_3 y with
  | true => exact Ends.pos rfl ((gall_ends hr3 r fun z hz => h z (List.mem_cons_of_mem _ hz)).val (by simp))
  | false => exact Ends.neg (by simp) ((Ends.const _).val (by simp))
def headB (x : S26) : Bool := decide (x.f0 = -1) && (decide (x.f1 = 0) && (decide (x.f3 = 0) && (decide (0 ≤ x.f2) && (decide (x.f4 = []) && decide (x.f5.toList = [])))))
def kidsB : List S26 → Bool
 | [k0, k1] => decide (k0.f0 = rd (rd_T58 l0_3 0).f1 0) && (decide (k1.f0 = 0) && (leafG l0_0 k1 && (decide (0 ≤ k1.f2) && (preN k0).all (okG l0_0 l0_1 l0_3))))
 | _ => false
def rightB (x : S26) : Bool := decide (rightS l0_0 l0_1 l0_2 l0_3 l0_4 = 0) && (headB x && kidsB l0_0 l0_1 l0_3 x.f6)
theorem gkids_ends (hr3 : ∀ z ∈ l0_3, z.f1.length ≤ 140737488355328) (hp : 0 < l0_3.length ∧ 0 < (rd_T58 l0_3 0).f1.length) (l : List S26) (hl : ∀ k ∈ l, ok26 k) : Ends (fun k => kidsGo k l0_0 l0_1 l0_2 l0_3 l0_4 l) (kidsB l0_0 l0_1 l0_3 l) := by
 match l, hl with
 | [], _ => exact Ends.const _
 | [_], _ => exact Ends.const _
 | _ :: _ :: _ :: _, _ => exact Ends.const _
 | [k0, k1], hl =>
  unfold kidsGo kidsB lastGo
  dsimp only
  refine Ends.pos hp ?_
  by_cases h0 : k0.f0 = rd (rd_T58 l0_3 0).f1 0
  case neg => exact Ends.neg h0 ((Ends.const _).val (by simp [h0]))
  refine Ends.pos h0 ?_
  by_cases h1 : k1.f0 = 0
  case neg => exact Ends.neg h1 ((Ends.const _).val (by simp [h1]))
  refine Ends.pos h1 (Ends.bind (gleaf_ends l0_0 l0_1 l0_2 l0_3 l0_4 k1 (okN (hl k1 (by simp)))) ?_)
  cases hle : leafG l0_0 k1 with
  | false => exact Ends.neg (by simp) ((Ends.const _).val (by simp))
  | true =>
   refine Ends.pos rfl ?_
   by_cases h2 : k1.f2 < 0
   ·exact Ends.pos h2 ((Ends.const _).val (by rw [decide_eq_false (show ¬ 0 ≤ k1.f2 by omega)]; simp))
   ·refine Ends.neg h2 ((gall_ends l0_0 l0_1 l0_2 l0_3 l0_4 hr3 (preN k0) fun y hy => okN (ok_pre (hl k0 (by simp)) y hy)).val ?_)
    rw [decide_eq_true h0, decide_eq_true h1, decide_eq_true (show 0 ≤ k1.f2 by omega)]; simp
theorem right_kids (h : rightS l0_0 l0_1 l0_2 l0_3 l0_4 = 0) : 0 < l0_3.length ∧ (rd_T58 l0_3 0).f1.length = 1 := by
 have hs : startS l0_0 l0_1 l0_3 = true := by
  unfold rightS at h
  by_cases c : startS l0_0 l0_1 l0_3 = true
  ·exact c
  ·have c' := Bool.eq_false_iff.mpr c
   rw [c'] at h
   repeat' split at h
   all_goals first | omega | (simp at h) | contradiction
 cases l0_3 with
 | nil => cases hs
 | cons x r =>
  refine ⟨by simp, ?_⟩
  have e0 : rd_T58 (x :: r) 0 = x := rfl
  rw [e0]
  simp only [startS] at hs
  unfold startOf at hs
  split at hs
  ·rename_i e; rw [e]; rfl
  ·cases hs
theorem gright_ends (hg : ok40 ⟨l0_0, l0_1, l0_2, l0_3, l0_4⟩) (hl3 : l0_3.length ≤ 1100) (hl4 : ∀ z ∈ l0_4, z.f1.length ≤ 1000000) (x : S26) (hx : ok26 x) (hw : wN x ≤ 300) :
  Ends (fun k => cst_Right.f k l0_0 l0_1 l0_2 l0_3 l0_4 x.f0 x.f1 x.f2 x.f3 x.f4 x.f5 x.f6) (rightB l0_0 l0_1 l0_2 l0_3 l0_4 x) := by
 have hr3 : ∀ z ∈ l0_3, z.f1.length ≤ 140737488355328 := fun z hz => by
  have := ((ok58_iff z).1 (((ok40_iff _).1 hg).2.2.2.1.2 z hz)).2.1.1
  unfold reachBytes at this; omega
 have hgr : Ends (fun k => grammar_Right.f k l0_0 l0_1 l0_2 l0_3 l0_4) (rightS l0_0 l0_1 l0_2 l0_3 l0_4) := Ends.of_mono (fun k => grammar_Right.mono _ _ _ _ _ k) (right_ends hg hl3 hl4)
 have hps := pre_len x
 show Ends (fun k => rightGo k l0_0 l0_1 l0_2 l0_3 l0_4 ⟨x.f0, x.f1, x.f2, x.f3, x.f4, x.f5, x.f6⟩) _
 rw [show (⟨x.f0, x.f1, x.f2, x.f3, x.f4, x.f5, x.f6⟩ : S26) = x by cases x; rfl]
 unfold rightGo rightB
 refine Ends.bind hgr ?_
 by_cases h : rightS l0_0 l0_1 l0_2 l0_3 l0_4 = 0
 case neg => exact Ends.neg h ((Ends.const _).val (by simp [h]))
 have hk := right_kids l0_0 l0_1 l0_2 l0_3 l0_4 h
 refine Ends.pos h (Ends.bind0 (size_val (mild_of hw)) ?_)
 rw [decide_eq_true h, Bool.true_and]
 unfold headGo headB
 refine Ends.neg (by omega) ?_
 by_cases h0 : x.f0 = -1
 case neg => exact Ends.pos h0 ((Ends.const _).val (by simp [h0]))
 refine Ends.neg (by simpa using h0) ?_
 by_cases h1 : x.f1 = 0
 case neg => exact Ends.pos h1 ((Ends.const _).val (by simp [h1]))
 refine Ends.neg (by simpa using h1) ?_
 by_cases h3 : x.f3 = 0
 case neg => exact Ends.pos h3 ((Ends.const _).val (by simp [h3]))
 refine Ends.neg (by simpa using h3) ?_
 by_cases h2 : x.f2 < 0
 ·exact Ends.pos h2 ((Ends.const _).val (by rw [decide_eq_false (show ¬ 0 ≤ x.f2 by omega)]; simp))
 refine Ends.neg h2 ?_
 by_cases h4 : x.f4 = []
 case neg => exact Ends.pos (List.length_pos_iff.2 h4) ((Ends.const _).val (by simp [h4]))
 refine Ends.neg (by rw [h4]; simp) ?_
 by_cases h5 : x.f5.toList = []
 case neg => exact Ends.pos h5 ((Ends.const _).val (by simp [h5]))
 refine Ends.neg (by simpa using h5) ((gkids_ends l0_0 l0_1 l0_2 l0_3 l0_4 hr3 ⟨hk.1, by omega⟩ x.f6 (okN hx).each).val ?_)
 rw [decide_eq_true h0, decide_eq_true h1, decide_eq_true h3, decide_eq_true (show 0 ≤ x.f2 by omega), decide_eq_true h4, decide_eq_true h5]
 simp
end
end
section
open Go.Proofs.YtphmgaijkdflnaaDoorW.PrintWords Go.Proofs.YtphmgaijkdflnaaDoorW.PrintLast Go.Proofs.YtphmgaijkdflnaaDoorW.PrintMore
section
variable (l0_0 l0_1 : List ByteArray) (l0_2 : List Int) (l0_3 : List S58) (l0_4 : List S61)
theorem rlead_l0 (l : List S46) (hl : l.length ≤ 140737488355328) : ∀ (r : List S46) (i : Nat), l.drop i = r → i ≤ l.length → Ends (fun k => arboristref42_lead.l0 k l (i : Int) l0_0 l0_1 l0_2 l0_3 l0_4) (r.all (triG l0_0)) := by
  intro r
  induction r with
  | nil =>
    intro i hr hi
    have e := tdrop_nil hr hi
    exact Ends.step (fun k => arboristref42_lead.l0.eq_2 ..) (Ends.neg (by omega) (Ends.const _))
  | cons p r ihr =>
    intro i hr hi
    obtain ⟨hlt, hp, hr2⟩ := tdrop_cons hr
    have h3 := ihr (i + 1) hr2 hlt
    rw [← wrap_succ i (by omega)] at h3
    refine Ends.step (fun k => arboristref42_lead.l0.eq_2 ..) (Ends.pos (by omega) (Ends.pos (by omega) ?_))
    rw [rdT _ _ hlt, hp, List.all_cons]
    have yes : triG l0_0 p = true → Ends (fun k => arboristref42_lead.l0 k l (wrap64 ((i : Int) + 1)) l0_0 l0_1 l0_2 l0_3 l0_4) (triG l0_0 p && r.all (triG l0_0)) := fun h => h3.val (by rw [h, Bool.true_and])
    have no : triG l0_0 p = false → Ends (fun _ => some false) (triG l0_0 p && r.all (triG l0_0)) := fun h => (Ends.const _).val (by rw [h, Bool.false_and])
    repeat' (refine Ends.ite' (fun _ => ?_) (fun _ => ?_))
    all_goals first
      | exact yes (triG_yes l0_0 (by omega) (by assumption))
      | exact no (triG_no2 l0_0 (by assumption))
      | exact no (triG_no1 l0_0 (by omega))
      | (exfalso; omega)
theorem rlead_ends (l : List S46) (hl : l.length ≤ 140737488355328) : Ends (fun k => arboristref42_lead.f k l0_0 l0_1 l0_2 l0_3 l0_4 l) (l.all (triG l0_0)) := rlead_l0 l0_0 l0_1 l0_2 l0_3 l0_4 l hl l 0 rfl (by omega)
def ruleB (y : S26) : Bool := decide (0 ≤ y.f1) && (decide (y.f1 < l0_3.length) && (decide ((rd_T58 l0_3 y.f1).f0 = -1 - y.f0) && decide ((rd_T58 l0_3 y.f1).f1 = y.f6.map (·.f0))))
theorem byrule_l0 (y : S26) (hk : y.f6.length ≤ 140737488355328) (g0 : 0 ≤ y.f1) (g1 : y.f1 < (l0_3.length : Int)) (R : S58) (hR : rd_T58 l0_3 y.f1 = R) (he : R.f1.length = y.f6.length) : ∀ (r : List S26) (i : Nat), y.f6.drop i = r → i ≤ y.f6.length →
    Ends (fun k => arboristref42_byRule.l0 k (i : Int) l0_0 l0_1 l0_2 l0_3 l0_4 y.f0 y.f1 y.f2 y.f3 y.f4 y.f5 y.f6) (decide (R.f1.drop i = r.map (·.f0))) := by
  intro r
  induction r with
  | nil =>
    intro i hr hi
    have e := tdrop_nil hr hi
    refine Ends.step (fun k => arboristref42_byRule.l0.eq_2 ..) (Ends.neg (by omega) ((Ends.const _).val ?_))
    rw [e, ← he, List.drop_length]; simp
  | cons p r ihr =>
    intro i hr hi
    obtain ⟨hlt, hp, hr2⟩ := tdrop_cons hr
    have hlt2 : i < R.f1.length := by omega
    refine Ends.step (fun k => arboristref42_byRule.l0.eq_2 ..) (Ends.pos (by omega) (Ends.pos (by omega) (Ends.pos g0 (Ends.pos g1 ?_))))
    rw [hR, rdN _ _ hlt, rdI _ _ hlt2, hp, wrap_succ i (by omega), List.drop_eq_getElem_cons hlt2, List.map_cons]
    refine Ends.pos (by omega) ?_
    by_cases h : p.f0 = R.f1[i]
    · refine Ends.pos h ((ihr (i + 1) hr2 hlt).val ?_)
      rw [decide_eq_decide, List.cons.injEq]; simp [h]
    · refine Ends.neg h ((Ends.const _).val ?_)
      symm; rw [decide_eq_false_iff_not, List.cons.injEq]; exact fun q => h q.1.symm
theorem byrule_ends (y : S26) (hy : OkN y) (hn : y.f0 < 0) : Ends (fun k => arboristref42_byRule.f k l0_0 l0_1 l0_2 l0_3 l0_4 y.f0 y.f1 y.f2 y.f3 y.f4 y.f5 y.f6) (ruleB l0_3 y) := by
  have hk := hy.kids
  have h00 := hy.s0
  have hw : wrap64 (-1 - y.f0) = -1 - y.f0 := by unfold wrap64; omega
  unfold arboristref42_byRule.f ruleB
  rw [hw]
  have jt : ∀ {b : Bool}, b = false → Ends (fun k => arboristref42_byRule.j0 k true l0_0 l0_1 l0_2 l0_3 l0_4 y.f0 y.f1 y.f2 y.f3 y.f4 y.f5 y.f6) b := fun h => h ▸ Ends.step (fun k => arboristref42_byRule.j0.eq_2 ..) (Ends.pos rfl (Ends.const _))
  by_cases g0 : 0 ≤ y.f1
  case neg => exact Ends.pos (by omega) (jt (by simp [g0]))
  refine Ends.neg (by omega) ?_
  by_cases g1 : y.f1 < (l0_3.length : Int)
  case neg => exact Ends.pos (by omega) (jt (by simp [g1]))
  refine Ends.neg (by omega) (Ends.pos g0 (Ends.pos g1 ?_))
  obtain ⟨R, hR⟩ : ∃ R, rd_T58 l0_3 y.f1 = R := ⟨_, rfl⟩
  rw [hR]
  by_cases q : R.f0 = -1 - y.f0
  case neg => exact Ends.neg q (jt (by simp [q]))
  refine Ends.pos q ?_
  by_cases e : R.f1.length = y.f6.length
  · refine Ends.step (fun k => arboristref42_byRule.j0.eq_2 ..) (Ends.neg (by simp; omega) ((byrule_l0 l0_0 l0_1 l0_2 l0_3 l0_4 y hk g0 g1 R hR e y.f6 0 rfl (by omega)).val ?_))
    simp [g0, g1, q]
  · refine Ends.step (fun k => arboristref42_byRule.j0.eq_2 ..) (Ends.pos (by simp; omega) ((Ends.const _).val ?_))
    have : ¬ R.f1 = y.f6.map (·.f0) := fun h => e (by rw [h, List.length_map])
    simp [this]
def withinB (e : Bool) (y : S26) (kids : Bool) : Bool := decide (0 ≤ y.f2) && (thereS l0_0 l0_1 y.f0 && (decide (y.f0 ≠ 1) && (decide (y.f0 ≠ -1) && (!(decide (y.f0 = 0) != e) &&
  (if 0 ≤ y.f0 then decide (y.f1 = -1) && (decide (y.f6 = []) && (if y.f3 = 1 then decide (y.f0 ≠ 0) && (decide (y.f4 = []) && decide (y.f5.toList = [])) else decide (y.f3 = 0) && (decide ((y.f5.toList = []) ↔ (y.f0 = 0)) && y.f4.all (triG l0_0))))
   else decide (y.f4 = []) && (decide (y.f5.toList = []) && (kids && (if y.f3 = 2 then decide (y.f1 = -1) else decide (y.f3 = 0) && ruleB l0_3 y))))))))
theorem within_l0' (y : S26) (hy : OkN y) (hn : y.f0 < 0) (q : S26 → Bool) (ih : ∀ p ∈ y.f6, Ends (fun k => arboristref42_within.f k l0_0 l0_1 l0_2 l0_3 l0_4 p.f0 p.f1 p.f2 p.f3 p.f4 p.f5 p.f6 false) (q p)) : ∀ (r : List S26) (i : Nat), y.f6.drop i = r → i ≤ y.f6.length →
    Ends (fun k => arboristref42_within.l0 k (i : Int) l0_0 l0_1 l0_2 l0_3 l0_4 y.f0 y.f1 y.f2 y.f3 y.f4 y.f5 y.f6) (r.all q && (if y.f3 = 2 then decide (y.f1 = -1) else decide (y.f3 = 0) && ruleB l0_3 y)) := by
  have hk := hy.kids
  intro r
  induction r with
  | nil =>
    intro i hr hi
    have e := tdrop_nil hr hi
    refine Ends.step (fun k => arboristref42_within.l0.eq_2 ..) (Ends.neg (by omega) ?_)
    by_cases h2 : y.f3 = 2
    · exact Ends.pos h2 ((Ends.const _).val (by simp [h2]; rfl))
    · refine Ends.neg h2 ?_
      by_cases h0 : y.f3 = 0
      · exact Ends.pos h0 (Ends.bind (byrule_ends l0_0 l0_1 l0_2 l0_3 l0_4 y hy hn) ((Ends.const _).val (by simp [h0])))
      · exact Ends.neg h0 ((Ends.const _).val (by simp [h2, h0]))
  | cons p r ihr =>
    intro i hr hi
    obtain ⟨hlt, hp, hr2⟩ := tdrop_cons hr
    refine Ends.step (fun k => arboristref42_within.l0.eq_2 ..) (Ends.pos (by omega) (Ends.pos (by omega) ?_))
    rw [rdN _ _ hlt, hp, wrap_succ i (by omega)]
    refine Ends.bind (ih p (hp ▸ List.getElem_mem hlt)) ?_
    cases hq : q p with
    | true => exact Ends.pos rfl ((ihr (i + 1) hr2 hlt).val (by rw [List.all_cons, hq, Bool.true_and]))
    | false => exact Ends.neg (by simp) ((Ends.const _).val (by simp [hq]))
theorem rwithin_step (h1 : l0_1.length ≤ 140737488355328) (y : S26) (hy : OkN y) (e : Bool) (q : S26 → Bool) (ih : ∀ p ∈ y.f6, Ends (fun k => arboristref42_within.f k l0_0 l0_1 l0_2 l0_3 l0_4 p.f0 p.f1 p.f2 p.f3 p.f4 p.f5 p.f6 false) (q p)) :
    Ends (fun k => arboristref42_within.f k l0_0 l0_1 l0_2 l0_3 l0_4 y.f0 y.f1 y.f2 y.f3 y.f4 y.f5 y.f6 e) (withinB l0_0 l0_1 l0_3 e y (y.f6.all q)) := by
  have jt : ∀ {b : Bool}, b = false → Ends (fun k => arboristref42_within.j0 k true l0_0 l0_1 l0_2 l0_3 l0_4 y.f0 y.f1 y.f2 y.f3 y.f4 y.f5 y.f6) b := fun h => h ▸ Ends.step (fun k => arboristref42_within.j0.eq_2 ..) (Ends.pos rfl (Ends.const _))
  have jt1 : ∀ {b : Bool}, b = false → Ends (fun k => arboristref42_within.j1 k true l0_0 l0_1 l0_2 l0_3 l0_4 y.f0 y.f1 y.f2 y.f3 y.f4 y.f5 y.f6) b := fun h => h ▸ Ends.step (fun k => arboristref42_within.j1.eq_2 ..) (Ends.pos rfl (Ends.const _))
  have jt2 : ∀ {b : Bool}, b = false → Ends (fun k => arboristref42_within.j2 k true l0_0 l0_1 l0_2 l0_3 l0_4 y.f0 y.f1 y.f2 y.f3 y.f4 y.f5 y.f6) b := fun h => h ▸ Ends.step (fun k => arboristref42_within.j2.eq_2 ..) (Ends.pos rfl (Ends.const _))
  unfold withinB
  refine Ends.step (fun k => arboristref42_within.f.eq_2 ..) ?_
  by_cases c2 : y.f2 < 0
  · exact Ends.pos c2 (jt (by rw [decide_eq_false (show ¬ 0 ≤ y.f2 by omega)]; rfl))
  refine Ends.neg c2 (Ends.bind0 (is_f (l0 := l0_0) (l1 := l0_1) (l2 := l0_2) (l3 := l0_3) (l4 := l0_4) h1 y.f0) ?_)
  rw [decide_eq_true (show 0 ≤ y.f2 by omega), Bool.true_and]
  cases ht : thereS l0_0 l0_1 y.f0 with
  | false => exact Ends.neg (by simp) (jt rfl)
  | true =>
    refine Ends.pos rfl ?_
    rw [Bool.true_and]
    by_cases s1 : y.f0 = 1
    · exact Ends.pos s1 (jt (by simp [s1]))
    refine Ends.neg s1 ?_
    by_cases s2 : y.f0 = -1
    · exact Ends.pos s2 (jt (by simp [s2]))
    refine Ends.neg s2 ?_
    rw [decide_eq_true s1, decide_eq_true s2, Bool.true_and, Bool.true_and, show (y.f0 == 0) = decide (y.f0 = 0) from rfl]
    cases he : (decide (y.f0 = 0) != e) with
    | true => exact jt (by simp)
    | false =>
      refine Ends.step (fun k => arboristref42_within.j0.eq_2 ..) (Ends.neg (by simp) ?_)
      rw [Bool.not_false, Bool.true_and]
      by_cases s0 : 0 ≤ y.f0
      · refine Ends.pos s0 ?_
        rw [if_pos s0]
        by_cases r1 : y.f1 = -1
        case neg => exact Ends.neg r1 (jt1 (by simp [r1]))
        refine Ends.pos r1 ?_
        by_cases h6 : y.f6 = []
        case neg => rw [decide_eq_true (show (y.f6.length : Int) > 0 by have := List.length_pos_iff.2 h6; omega)]; exact jt1 (by simp [h6])
        rw [decide_eq_false (show ¬ (y.f6.length : Int) > 0 by rw [h6]; simp)]
        refine Ends.step (fun k => arboristref42_within.j1.eq_2 ..) (Ends.neg (by simp) ?_)
        by_cases h3 : y.f3 = 1
        · refine Ends.pos h3 ?_
          by_cases z : y.f0 = 0
          · exact Ends.pos z ((Ends.const _).val (by simp [h3, z]))
          · refine Ends.neg z ?_
            by_cases h4 : y.f4 = []
            · refine Ends.pos (by rw [h4]; rfl) ((Ends.const _).val ?_)
              by_cases e : y.f5.toList = [] <;> simp [r1, h6, h3, z, h4, e]
            · refine Ends.neg (by have := List.length_pos_iff.2 h4; omega) ((Ends.const _).val ?_)
              simp [h3, h4]
        · refine Ends.neg h3 ?_
          by_cases z : y.f3 = 0
          · refine Ends.pos z ?_
            by_cases e : (y.f5.toList = []) ↔ (y.f0 = 0)
            · refine Ends.pos (iffB.2 e) (Ends.bind (rlead_ends l0_0 l0_1 l0_2 l0_3 l0_4 y.f4 hy.lead) ((Ends.const _).val ?_))
              simp [r1, h6, z, e]
            · refine Ends.neg (fun q => e (iffB.1 q)) ((Ends.const _).val ?_)
              simp [h3, e]
          · refine Ends.neg z ((Ends.const _).val ?_)
            simp [h3, z]
      · refine Ends.neg s0 ?_
        rw [if_neg s0]
        by_cases h4 : y.f4 = []
        case neg => exact Ends.pos (by have := List.length_pos_iff.2 h4; omega) (jt2 (by simp [h4]))
        refine Ends.neg (by rw [h4]; simp) ?_
        by_cases h5 : y.f5.toList = []
        case neg => rw [show (y.f5.toList != ([] : List UInt8)) = true by simpa using h5]; exact jt2 (by simp [h5])
        rw [show (y.f5.toList != ([] : List UInt8)) = false by simpa using h5]
        refine Ends.step (fun k => arboristref42_within.j2.eq_2 ..) (Ends.neg (by simp) ((within_l0' l0_0 l0_1 l0_2 l0_3 l0_4 y hy (by omega) q ih y.f6 0 rfl (by omega)).val ?_))
        rw [decide_eq_true h4, decide_eq_true h5, Bool.true_and, Bool.true_and]
theorem there_neg {s : Int} (h : s < 0) : thereS l0_0 l0_1 s = decide (-1 - s < l0_1.length) := by
  unfold thereS
  rw [decide_eq_true (show s < (l0_0.length : Int) by omega), Bool.true_and, decide_eq_decide]
  omega
theorem there_pos {s : Int} (h : 0 ≤ s) : thereS l0_0 l0_1 s = decide (s < l0_0.length) := by
  unfold thereS
  rw [decide_eq_true (show -(l0_1.length : Int) ≤ s by omega), Bool.and_true]
theorem within_all (y : S26) : withinB l0_0 l0_1 l0_3 false y (y.f6.all fun k => (preN k).all (okG l0_0 l0_1 l0_3)) = (preN y).all (okG l0_0 l0_1 l0_3) := by
  have hl : ∀ l : List S26, (preL l).all (okG l0_0 l0_1 l0_3) = l.all fun k => (preN k).all (okG l0_0 l0_1 l0_3) := by
    intro l
    induction l with
    | nil => rfl
    | cons k r ih => simp only [preL, List.all_append, List.all_cons, ih]
  rw [preN_eq, List.all_cons, hl]
  obtain ⟨K, hK⟩ : ∃ K, (y.f6.all fun k => (preN k).all (okG l0_0 l0_1 l0_3)) = K := ⟨_, rfl⟩
  rw [hK]
  unfold withinB okG
  by_cases c2 : 0 ≤ y.f2
  case neg => simp [c2]
  by_cases z0 : y.f0 = 0
  · simp [z0]
  by_cases z1 : y.f0 = -1
  · simp [z1]
  by_cases hp : 0 < y.f0
  · have e6 : y.f6 = [] → K = true := fun h => by rw [← hK, h]; rfl
    rw [there_pos l0_0 l0_1 (by omega), if_pos (show 0 ≤ y.f0 by omega), if_pos hp]
    unfold leafG
    by_cases h6 : y.f6 = []
    · rw [e6 h6]
      by_cases a : y.f0 < (l0_0.length : Int) <;> by_cases b : y.f0 = 1 <;> by_cases c : y.f1 = -1 <;> simp [c2, z0, z1, h6, a, b, c]
    · simp [h6]
  · rw [there_neg l0_0 l0_1 (by omega), if_neg (show ¬ 0 ≤ y.f0 by omega), if_neg hp]
    unfold innerG ruleB
    have z2 : ¬ y.f0 = 1 := by omega
    cases K <;> by_cases a : -1 - y.f0 < (l0_1.length : Int) <;> by_cases b : y.f4 = [] <;> by_cases c : y.f5.toList = [] <;> simp [c2, z0, z1, z2, a, b, c]
theorem rwithin_ends (h1 : l0_1.length ≤ 140737488355328) (y : S26) : ok26 y → Ends (fun k => arboristref42_within.f k l0_0 l0_1 l0_2 l0_3 l0_4 y.f0 y.f1 y.f2 y.f3 y.f4 y.f5 y.f6 false) ((preN y).all (okG l0_0 l0_1 l0_3)) := by
  refine node_ind (P := fun y => ok26 y → Ends (fun k => arboristref42_within.f k l0_0 l0_1 l0_2 l0_3 l0_4 y.f0 y.f1 y.f2 y.f3 y.f4 y.f5 y.f6 false) ((preN y).all (okG l0_0 l0_1 l0_3))) (fun y ih hok => ?_) y
  have hy := okN hok
  exact (rwithin_step l0_0 l0_1 l0_2 l0_3 l0_4 h1 y hy false (fun k => (preN k).all (okG l0_0 l0_1 l0_3)) fun p hp => ih p hp (hy.each p hp)).val (within_all l0_0 l0_1 l0_3 y)
theorem rlast_ends (h1 : l0_1.length ≤ 140737488355328) (y : S26) (hok : ok26 y) : Ends (fun k => arboristref42_within.f k l0_0 l0_1 l0_2 l0_3 l0_4 y.f0 y.f1 y.f2 y.f3 y.f4 y.f5 y.f6 true) (decide (y.f0 = 0) && (leafG l0_0 y && decide (0 ≤ y.f2))) := by
  have hy := okN hok
  refine (rwithin_step l0_0 l0_1 l0_2 l0_3 l0_4 h1 y hy true (fun k => (preN k).all (okG l0_0 l0_1 l0_3)) fun p hp => rwithin_ends l0_0 l0_1 l0_2 l0_3 l0_4 h1 p (hy.each p hp)).val ?_
  unfold withinB
  by_cases z0 : y.f0 = 0
  · rw [there_pos l0_0 l0_1 (by omega), if_pos (show 0 ≤ y.f0 by omega)]
    unfold leafG
    by_cases a : y.f0 < (l0_0.length : Int) <;> by_cases b : 0 ≤ y.f2 <;> by_cases c : y.f1 = -1 <;> by_cases d : y.f6 = [] <;> simp [z0, a, b, c, d] <;> simp [z0] at a <;> simp [a]
  · simp [z0]
theorem rright_tree (hg : ok40 ⟨l0_0, l0_1, l0_2, l0_3, l0_4⟩) (hl3 : l0_3.length ≤ 1100) (x : S26) (hx : ok26 x) (hw : wN x ≤ 300) :
    Ends (fun k => arboristref42_Right.f k l0_0 l0_1 l0_2 l0_3 l0_4 x.f0 x.f1 x.f2 x.f3 x.f4 x.f5 x.f6) (rightB l0_0 l0_1 l0_2 l0_3 l0_4 x) := by
  have h1 : l0_1.length ≤ 140737488355328 := by have := ((ok40_iff _).1 hg).2.1.1; simp only at this; unfold reachBytes at this; omega
  have hxo := okN hx
  have hps := pre_len x
  have hgr : Ends (fun k => arboristref15_Right.f k l0_0 l0_1 l0_2 l0_3 l0_4) (rightS l0_0 l0_1 l0_2 l0_3 l0_4) := Ends.of_mono (fun k => arboristref15_Right.mono _ _ _ _ _ k) (rright_ends hg hl3)
  have jt : ∀ {b : Bool}, b = false → Ends (fun k => arboristref42_Right.j0 k true l0_0 l0_1 l0_2 l0_3 l0_4 x.f0 x.f1 x.f2 x.f3 x.f4 x.f5 x.f6) b := fun h => h ▸ Ends.step (fun k => arboristref42_Right.j0.eq_2 ..) (Ends.pos rfl (Ends.const _))
  have jt1 : ∀ {b : Bool}, b = false → Ends (fun k => arboristref42_Right.j1 k true l0_0 l0_1 l0_2 l0_3 l0_4 x.f0 x.f1 x.f2 x.f3 x.f4 x.f5 x.f6) b := fun h => h ▸ Ends.step (fun k => arboristref42_Right.j1.eq_2 ..) (Ends.pos rfl (Ends.const _))
  unfold arboristref42_Right.f rightB
  refine Ends.bind hgr ?_
  by_cases h : rightS l0_0 l0_1 l0_2 l0_3 l0_4 = 0
  case neg => exact Ends.neg h (jt (by simp [h]))
  have hk := right_kids l0_0 l0_1 l0_2 l0_3 l0_4 h
  refine Ends.pos h (Ends.bind (rsize_ends x hx hw) ?_)
  rw [decide_eq_true h, Bool.true_and, decide_eq_false (show ¬ ((preN x).length : Int) > 65536 by omega)]
  refine Ends.step (fun k => arboristref42_Right.j0.eq_2 ..) (Ends.neg (by simp) ?_)
  unfold headB
  by_cases h0 : x.f0 = -1
  case neg => exact Ends.neg h0 (jt1 (by simp [h0]))
  refine Ends.pos h0 ?_
  by_cases h1' : x.f1 = 0
  case neg => exact Ends.neg h1' (jt1 (by simp [h1']))
  refine Ends.pos h1' ?_
  by_cases h3 : x.f3 = 0
  case neg => exact Ends.neg h3 (jt1 (by simp [h3]))
  refine Ends.pos h3 ?_
  by_cases h2 : x.f2 < 0
  · exact Ends.pos h2 (jt1 (by rw [decide_eq_false (show ¬ 0 ≤ x.f2 by omega)]; simp))
  refine Ends.neg h2 ?_
  by_cases h4 : x.f4 = []
  case neg => exact Ends.pos (by have := List.length_pos_iff.2 h4; omega) (jt1 (by simp [h4]))
  refine Ends.neg (by rw [h4]; simp) ?_
  by_cases h5 : x.f5.toList = []
  case neg => exact Ends.neg h5 (jt1 (by simp [h5]))
  refine Ends.pos h5 ?_
  rw [decide_eq_true h0, decide_eq_true h1', decide_eq_true h3, decide_eq_true (show 0 ≤ x.f2 by omega), decide_eq_true h4, decide_eq_true h5]
  simp only [Bool.true_and]
  by_cases hl : x.f6.length = 2
  case neg =>
    rw [show ((x.f6.length : Int) != 2) = true by rw [bne_iff_ne]; omega]
    refine jt1 ?_
    unfold kidsB
    split
    · rename_i e; rw [e] at hl; exact absurd rfl hl
    · rfl
  obtain ⟨k0, k1, e6⟩ : ∃ k0 k1, x.f6 = [k0, k1] := by
    generalize x.f6 = l at hl
    match l, hl with
    | [a, b], _ => exact ⟨a, b, rfl⟩
  rw [show ((x.f6.length : Int) != 2) = false by rw [bne_eq_false_iff_eq]; omega]
  refine Ends.step (fun k => arboristref42_Right.j1.eq_2 ..) (Ends.neg (by simp) (Ends.pos (by omega) (Ends.pos (by omega) (Ends.pos (by omega) ?_))))
  have hm0 : k0 ∈ x.f6 := by rw [e6]; simp
  have hm1 : k1 ∈ x.f6 := by rw [e6]; simp
  rw [e6]
  have r0 : rd_T26 [k0, k1] 0 = k0 := rfl
  have r1 : rd_T26 [k0, k1] 1 = k1 := rfl
  rw [r0, r1]
  unfold kidsB
  dsimp only
  by_cases a0 : k0.f0 = rd (rd_T58 l0_3 0).f1 0
  case neg => exact Ends.neg a0 ((Ends.const _).val (by simp [a0]))
  refine Ends.pos a0 (Ends.bind (rwithin_ends l0_0 l0_1 l0_2 l0_3 l0_4 h1 k0 (hxo.each k0 hm0)) ?_)
  rw [decide_eq_true a0, Bool.true_and]
  cases hA : (preN k0).all (okG l0_0 l0_1 l0_3) with
  | false => exact Ends.neg (by simp) ((Ends.const _).val (by simp))
  | true =>
    refine Ends.pos rfl (Ends.pos (by simp) (Ends.bind (rlast_ends l0_0 l0_1 l0_2 l0_3 l0_4 h1 k1 (hxo.each k1 hm1)) ((Ends.const _).val ?_)))
    simp
end
end
section
open Go.Proofs.YtphmgaijkdflnaaDoorW.PrintWords Go.Proofs.YtphmgaijkdflnaaDoorW.PrintLast Go.Proofs.YtphmgaijkdflnaaDoorW.PrintMore
attribute [local go_sem] max2_int min2_int max_two min_two max_three min_three max_four min_four
def arboristlaw42_CstRight.j0 : Nat → Bool → List ByteArray → List ByteArray → List Int → List (S58) → List (S61) → Int → Int → Int → Int → List (S46) → ByteArray → List (S26) → Option (Bool)
 | 0, _, _, _, _, _, _, _, _, _, _, _, _, _ => none
 | k + 1, x12, x303000, x303001, x303002, x303003, x303004, x304000, x304001, x304002, x304003, x304004, x304005, x304006 => if x12 = true then ((arboristlaw42_knows.f).bind fun t306 => (some t306)) else ((cst_Right.f k x303000 x303001 x303002 x303003 x303004 x304000 x304001 x304002 x304003 x304004 x304005 x304006).bind fun t307 => ((arboristref42_Right.f k x303000 x303001 x303002 x303003 x303004 x304000 x304001 x304002 x304003 x304004 x304005 x304006).bind fun t308 => (if (t307 == t308) = true then ((cst_Show.f x303000 x303001 x303002 x303003 x303004 x304000 x304001 x304002 x304003 x304004 x304005 x304006).bind fun t309 => ((arboristref42_Show.f k x303000 x303001 x303002 x303003 x303004 x304000 x304001 x304002 x304003 x304004 x304005 x304006).bind fun t310 => (if t309.toList = t310.toList then ((arboristlaw42_knows.f).bind fun t311 => (some t311)) else (none)))) else (none))))
def arboristlaw42_CstRight.f (k : Nat) (l0_0 : List ByteArray) (l0_1 : List ByteArray) (l0_2 : List Int) (l0_3 : List (S58)) (l0_4 : List (S61)) (a1_0 : Int) (a1_1 : Int) (a1_2 : Int) (a1_3 : Int) (l1_4 : List (S46)) (a1_5 : ByteArray) (l1_6 : List (S26)) : Option (Bool) := (arboristref15_Few.f k l0_0 l0_1 l0_2 l0_3 l0_4 30).bind fun t304 => (if t304 = true then ((arboristref42_Few.f k a1_0 a1_1 a1_2 a1_3 l1_4 a1_5 l1_6 300).bind fun t305 => (arboristlaw42_CstRight.j0 k (!t305) l0_0 l0_1 l0_2 l0_3 l0_4 a1_0 a1_1 a1_2 a1_3 l1_4 a1_5 l1_6)) else (arboristlaw42_CstRight.j0 k true l0_0 l0_1 l0_2 l0_3 l0_4 a1_0 a1_1 a1_2 a1_3 l1_4 a1_5 l1_6))
def arboristlaw42_CstRight.T3 : Bool × List (List Nat × List Nat) := (true, [([], []), ([], []), ([0, 1], [0, 1]), ([], []), ([], []), ([3, 4, 2], [3, 4]), ([2, 5], [2, 5]), ([6, 5], [6]), ([7], [7]), ([7], [7]), ([8, 9, 7, 7], [7, 8, 9]), ([7], [7]), ([7], [7]), ([11, 12, 10, 7], [7, 11, 12]), ([10, 13, 7], [7, 10, 13]), ([7, 14], [7, 14]), ([15, 13], [15]), ([16, 16], [16]), ([16, 17], [16, 17]), ([18, 17, 0, 1, 2, 3, 4, 5, 6, 7, 8, 9, 10, 11, 12, 13, 14, 15, 16, 17, 18], [18])])
def arboristlaw42_CstRight.B3 : List Nat := [0, 0, 3, 0, 0, 31, 63, 127, 255, 255, 1023, 255, 255, 8191, 16383, 32767, 65535, 131071, 262143, 524287]
theorem arboristlaw42_CstRight.tab3 : rtab .any (opsOf Tryd.f5 3) = arboristlaw42_CstRight.T3 := by kernel_rfl
theorem arboristlaw42_CstRight.bits3 : waitsOk arboristlaw42_CstRight.T3.2 arboristlaw42_CstRight.B3 = true := by kernel_rfl
theorem arboristlaw42_CstRight.calls (k : Nat) (A0_0 : Option Addr) (c0_0 : Nat) (l0_0 : List ByteArray) (A0_1 : Option Addr) (c0_1 : Nat) (l0_1 : List ByteArray) (A0_2 : Option Addr) (c0_2 : Nat) (l0_2 : List Int) (A0_3 : Option Addr) (c0_3 : Nat) (l0_3 : List (S58)) (A0_4 : Option Addr) (c0_4 : Nat) (l0_4 : List (S61)) (a1_0 : Int) (a1_1 : Int) (a1_2 : Int) (a1_3 : Int) (A1_4 : Option Addr) (c1_4 : Nat) (l1_4 : List (S46)) (a1_5 : ByteArray) (A1_6 : Option Addr) (c1_6 : Nat) (l1_6 : List (S26)) (r : Bool) (w : World) (hgw : GW w) (hr0_0 : Kd.C Kd.string w A0_0 l0_0.length l0_0) (hc0_0 : l0_0.length ≤ c0_0) (hr0_1 : Kd.C Kd.string w A0_1 l0_1.length l0_1) (hc0_1 : l0_1.length ≤ c0_1) (hr0_2 : Kd.C (Kd.int .i64) w A0_2 l0_2.length l0_2) (hc0_2 : l0_2.length ≤ c0_2) (hr0_3 : Kd.C k58 w A0_3 l0_3.length l0_3) (hc0_3 : l0_3.length ≤ c0_3) (hr0_4 : Kd.C k61 w A0_4 l0_4.length l0_4) (hc0_4 : l0_4.length ≤ c0_4) (hr1_4 : Kd.C k46 w A1_4 l1_4.length l1_4) (hc1_4 : l1_4.length ≤ c1_4) (hr1_6 : Kd.C k26 w A1_6 l1_6.length l1_6) (hc1_6 : l1_6.length ≤ c1_6) (h : arboristlaw42_CstRight.f k l0_0 l0_1 l0_2 l0_3 l0_4 a1_0 a1_1 a1_2 a1_3 l1_4 a1_5 l1_6 = some r) :
  Calls Tryd.prog 5 #[.agg #[.slice A0_0 l0_0.length c0_0, .slice A0_1 l0_1.length c0_1, .slice A0_2 l0_2.length c0_2, .slice A0_3 l0_3.length c0_3, .slice A0_4 l0_4.length c0_4], .agg #[.int .i64 a1_0, .int .i64 a1_1, .int .i64 a1_2, .int .i64 a1_3, .slice A1_4 l1_4.length c1_4, .string a1_5, .slice A1_6 l1_6.length c1_6]] w fun e w' => e = .returned (.bool r) ∧ Below w.heap.size w w' := by
 have HGW := qM hgw; clear hgw; have hu40 := Tryd.underlying40; have hu26 := Tryd.underlying26; have HR0_0 := qM hr0_0; have HC0_0 := qM hc0_0; clear hr0_0 hc0_0; have HR0_1 := qM hr0_1; have HC0_1 := qM hc0_1; clear hr0_1 hc0_1; have HR0_2 := qM hr0_2; have HC0_2 := qM hc0_2; clear hr0_2 hc0_2; have HR0_3 := qM hr0_3; have HC0_3 := qM hc0_3; clear hr0_3 hc0_3; have HR0_4 := qM hr0_4; have HC0_4 := qM hc0_4; clear hr0_4 hc0_4; have HR1_4 := qM hr1_4; have HC1_4 := qM hc1_4; clear hr1_4 hc1_4; have HR1_6 := qM hr1_6; have HC1_6 := qM hc1_6; clear hr1_6 hc1_6; have HB := qM (Below.refl w.heap.size w); have H : ((arboristref15_Few.f k l0_0 l0_1 l0_2 l0_3 l0_4 30).bind fun t304 => (if t304 = true then ((arboristref42_Few.f k a1_0 a1_1 a1_2 a1_3 l1_4 a1_5 l1_6 300).bind fun t305 => (arboristlaw42_CstRight.j0 k (!t305) l0_0 l0_1 l0_2 l0_3 l0_4 a1_0 a1_1 a1_2 a1_3 l1_4 a1_5 l1_6)) else (arboristlaw42_CstRight.j0 k true l0_0 l0_1 l0_2 l0_3 l0_4 a1_0 a1_1 a1_2 a1_3 l1_4 a1_5 l1_6))) = some r := h; clear h; have HC3 := qM H; clear H; (go_enter Tryd.func5, Tryd.ntmps5)
 go_upto_region 1 with (first | ((with_reducible refine gate_dst (N := 2) rfl ?_); refine box_event ?hg (N := 2) ?hd (cs := #[.slice A0_0 l0_0.length c0_0, .slice A0_1 l0_1.length c0_1, .slice A0_2 l0_2.length c0_2, .slice A0_3 l0_3.length c0_3, .slice A0_4 l0_4.length c0_4]) (t := 40) ?hr ?_; (case hd | hg => rfl); (case hr => first | (go_simp; done) | (go_simp; rfl)); intro gb302 hg w4 hbox hb; have BK302 := qM (hbox); have GW302 := qM (qG hg); have GE302 := GW302; replace HB := qM (qP qF hb); clear hb hbox hg) | ((with_reducible refine gate_dst (N := 3) rfl ?_); refine box_event ?hg (N := 3) ?hd (cs := #[.int .i64 a1_0, .int .i64 a1_1, .int .i64 a1_2, .int .i64 a1_3, .slice A1_4 l1_4.length c1_4, .string a1_5, .slice A1_6 l1_6.length c1_6]) (t := 26) ?hr ?_; (case hd | hg => rfl); (case hr => first | (go_simp; done) | (go_simp; rfl)); intro gb303 hg w5 hbox hb; have BK303 := qM (hbox); have GW303 := qM (qG hg); have GE303 := GW303; have NB302_303 := qM ((by rw [hg]; exact Nat.ne_of_lt (ql (g := gb302) qK) : gb302 ≠ gb303)); have NB303_302 := qM (Ne.symm NB302_303.out); replace BK302 := qM (qb (g := gb302) qK hb); replace HB := qM (qP qF hb); clear hb hbox hg))
 (try simp only [Act.put, List.setIfInBounds_toArray, List.set_cons_zero, List.set_cons_succ]); (go_cut [12] (fun v12 wc => ∃ (kq : Nat) (x12_2 : Bool), v12 = .bool x12_2 ∧ Aside0 (arboristlaw42_CstRight.j0 kq x12_2 l0_0 l0_1 l0_2 l0_3 l0_4 a1_0 a1_1 a1_2 a1_3 l1_4 a1_5 l1_6 = some r) ∧ Aside0 (kq ≤ k) ∧ Aside0 (wc.heap[gb302]? = some (.cells #[(.slice A0_0 l0_0.length c0_0), (.slice A0_1 l0_1.length c0_1), (.slice A0_2 l0_2.length c0_2), (.slice A0_3 l0_3.length c0_3), (.slice A0_4 l0_4.length c0_4)] 40 (0, 0))) ∧ Aside0 (wc.heap[gb303]? = some (.cells #[.int .i64 a1_0, .int .i64 a1_1, .int .i64 a1_2, .int .i64 a1_3, (.slice A1_4 l1_4.length c1_4), .string a1_5, (.slice A1_6 l1_6.length c1_6)] 26 (0, 0))) ∧ Aside0 (Below w.heap.size w wc)))
 case first =>
  have H := HC3.out; clear HC3; replace H := Option.bind_eq_some_iff.mp H; obtain ⟨t304, A60, H⟩ := H; replace H : (if t304 = true then ((arboristref42_Few.f k a1_0 a1_1 a1_2 a1_3 l1_4 a1_5 l1_6 300).bind fun t305 => (arboristlaw42_CstRight.j0 k (!t305) l0_0 l0_1 l0_2 l0_3 l0_4 a1_0 a1_1 a1_2 a1_3 l1_4 a1_5 l1_6)) else (arboristlaw42_CstRight.j0 k true l0_0 l0_1 l0_2 l0_3 l0_4 a1_0 a1_1 a1_2 a1_3 l1_4 a1_5 l1_6)) = some r := H; have A6 := qM A60; clear A60; (refine iteR ?_ ?_ H <;> clear H <;> intro c7 H)
  ·subst c7
   replace H := Option.bind_eq_some_iff.mp H; obtain ⟨t305, A80, H⟩ := H; replace H : (arboristlaw42_CstRight.j0 k (!t305) l0_0 l0_1 l0_2 l0_3 l0_4 a1_0 a1_1 a1_2 a1_3 l1_4 a1_5 l1_6) = some r := H; have A8 := qM A80; clear A80; have H' := qM H; clear H; have hnb9 := NB302_303.out; have hnc9 := NB303_302.out; have hz10 := bx5 BK302.out
   go_wp2_with (first | ((with_reducible refine gate_callee (f := 23) rfl ?_); refine goesL_ (some 6) rfl rfl Tryd.func23 (by kernel_rfl) rfl #[.agg #[.slice A0_0 l0_0.length c0_0, .slice A0_1 l0_1.length c0_1, .slice A0_2 l0_2.length c0_2, .slice A0_3 l0_3.length c0_3, .slice A0_4 l0_4.length c0_4], .int .i64 30] rfl (by (try simp only [List.map_toArray, List.map_cons, List.map_nil]); first | done | rfl | (simp only [List.length_drop, List.length_take]; rfl)) ?_; (with_reducible refine (arboristref15_Few.calls k _ _ l0_0 _ _ l0_1 _ _ l0_2 _ _ l0_3 _ _ l0_4 30 true _ ?side1 ?side2 ?side3 ?side4 ?side5 ?side6 ?side7 ?side8 ?side9 ?side10 A6.out).mono ?_); (case side1 | side3 | side5 | side7 | side9 => exact qY); (case side2 | side4 | side6 | side8 | side10 => exact qO); rintro e w11 ⟨rfl, hb⟩; refine ⟨_, rfl, ?_⟩; replace BK302 := qM (qb (g := gb302) qK hb); replace BK303 := qM (qb (g := gb303) qK hb); replace HB := qM (qP qF hb); (try clear hb); (try clear hb2); (try clear hk); (try clear hi); have hz12 := bx7 BK303.out) | (go_at_call 8; (with_reducible refine (arboristref42_Few.calls k a1_0 a1_1 a1_2 a1_3 _ _ l1_4 a1_5 _ _ l1_6 300 t305 _ ?side1 ?side2 ?side3 ?side4 A8.out).mono ?_); (case side1 | side3 => exact qY); (case side2 | side4 => exact qO); rintro e w13 ⟨rfl, hb⟩; replace BK302 := qM (qb (g := gb302) qK hb); replace BK303 := qM (qb (g := gb303) qK hb); replace HB := qM (qP qF hb); (try clear hb); (try clear hb2); (try clear hk); (try clear hi)))
   go_meet
   case rel => exact ⟨_, (!t305), qV, H', ⟨by first | omega | exact Nat.le_refl _⟩, ⟨qK⟩, ⟨qK⟩, ⟨qF⟩⟩
  ·replace c7 := Bool.eq_false_iff.mpr c7
   subst c7; have H' := qM H; clear H; have hnb14 := NB302_303.out; have hnc14 := NB303_302.out; have hz15 := bx5 BK302.out
   go_wp2_with (first | ((with_reducible refine gate_callee (f := 23) rfl ?_); refine goesL_ (some 6) rfl rfl Tryd.func23 (by kernel_rfl) rfl #[.agg #[.slice A0_0 l0_0.length c0_0, .slice A0_1 l0_1.length c0_1, .slice A0_2 l0_2.length c0_2, .slice A0_3 l0_3.length c0_3, .slice A0_4 l0_4.length c0_4], .int .i64 30] rfl (by (try simp only [List.map_toArray, List.map_cons, List.map_nil]); first | done | rfl | (simp only [List.length_drop, List.length_take]; rfl)) ?_; (with_reducible refine (arboristref15_Few.calls k _ _ l0_0 _ _ l0_1 _ _ l0_2 _ _ l0_3 _ _ l0_4 30 false _ ?side1 ?side2 ?side3 ?side4 ?side5 ?side6 ?side7 ?side8 ?side9 ?side10 A6.out).mono ?_); (case side1 | side3 | side5 | side7 | side9 => exact qY); (case side2 | side4 | side6 | side8 | side10 => exact qO); rintro e w16 ⟨rfl, hb⟩; refine ⟨_, rfl, ?_⟩; replace BK302 := qM (qb (g := gb302) qK hb); replace BK303 := qM (qb (g := gb303) qK hb); replace HB := qM (qP qF hb); (try clear hb); (try clear hb2); (try clear hk); (try clear hi)))
   go_meet
   case rel => exact ⟨_, (true), qV, H', ⟨by first | omega | exact Nat.le_refl _⟩, ⟨qK⟩, ⟨qK⟩, ⟨qF⟩⟩
 case rest =>
  clear HC3; (try clear c1); (try clear c2); (try clear p2); (try clear c5); (try clear c7); (try clear c9); (try clear c14); (try clear hz10); (try clear hz12); (try clear hz15); obtain ⟨kq, x12_2, rfl, HA, HJ2, BK302, BK303, HB⟩ := hcut
  cases kq with
  | zero => exact absurd HA.out (by simp [arboristlaw42_CstRight.j0])
  | succ kj2 =>
   have H := HA.out; clear HA; (simp only [arboristlaw42_CstRight.j0] at H); (refine iteR ?_ ?_ H <;> clear H <;> intro c17 H)
   ·subst c17
    replace H := Option.bind_eq_some_iff.mp H; obtain ⟨t306, A180, H⟩ := H; replace H : (some t306) = some r := H; have A18 := qM A180; clear A180; obtain rfl := Option.some.inj H
    go_wp2_with (first | ((with_reducible refine gate_callee (f := 9) rfl ?_); refine goesL_ (some 13) rfl rfl Tryd.func9 (by kernel_rfl) rfl #[] rfl (by (try simp only [List.map_toArray, List.map_cons, List.map_nil]); first | done | rfl | (simp only [List.length_drop, List.length_take]; rfl)) ?_; (with_reducible refine (arboristlaw42_knows.calls  t306 _ ?side1 A18.out).mono ?_); (case side1 => exact GW.below HGW.out qF); rintro e w19 ⟨rfl, hb⟩; refine ⟨_, rfl, ?_⟩; replace BK302 := qM (qb (g := gb302) qK hb); replace BK303 := qM (qb (g := gb303) qK hb); replace HB := qM (qP qF hb); (try clear hb); (try clear hb2); (try clear hk); (try clear hi)))
    (go_ret); exact ⟨qE, qF⟩
   ·replace c17 := Bool.eq_false_iff.mpr c17
    subst c17; replace H := Option.bind_eq_some_iff.mp H; obtain ⟨t307, A200, H⟩ := H; replace H : ((arboristref42_Right.f kj2 l0_0 l0_1 l0_2 l0_3 l0_4 a1_0 a1_1 a1_2 a1_3 l1_4 a1_5 l1_6).bind fun t308 => (if (t307 == t308) = true then ((cst_Show.f l0_0 l0_1 l0_2 l0_3 l0_4 a1_0 a1_1 a1_2 a1_3 l1_4 a1_5 l1_6).bind fun t309 => ((arboristref42_Show.f kj2 l0_0 l0_1 l0_2 l0_3 l0_4 a1_0 a1_1 a1_2 a1_3 l1_4 a1_5 l1_6).bind fun t310 => (if t309.toList = t310.toList then ((arboristlaw42_knows.f).bind fun t311 => (some t311)) else (none)))) else (none))) = some r := H; have A20 := qM A200; clear A200; replace H := Option.bind_eq_some_iff.mp H; obtain ⟨t308, A210, H⟩ := H; replace H : (if (t307 == t308) = true then ((cst_Show.f l0_0 l0_1 l0_2 l0_3 l0_4 a1_0 a1_1 a1_2 a1_3 l1_4 a1_5 l1_6).bind fun t309 => ((arboristref42_Show.f kj2 l0_0 l0_1 l0_2 l0_3 l0_4 a1_0 a1_1 a1_2 a1_3 l1_4 a1_5 l1_6).bind fun t310 => (if t309.toList = t310.toList then ((arboristlaw42_knows.f).bind fun t311 => (some t311)) else (none)))) else (none)) = some r := H; have A21 := qM A210; clear A210; (refine iteR ?_ ?_ H <;> clear H <;> intro c22 H)
    ·have c22b0 : (t307 == t308) = true := c22
     (try (have c22b1 : decide (t307 = t308) = true := by simpa using c22)); (try (have c22b2 : (t307 == t308) = true := by simpa using c22)); clear c22; replace H := Option.bind_eq_some_iff.mp H; obtain ⟨t309, A230, H⟩ := H; replace H : ((arboristref42_Show.f kj2 l0_0 l0_1 l0_2 l0_3 l0_4 a1_0 a1_1 a1_2 a1_3 l1_4 a1_5 l1_6).bind fun t310 => (if t309.toList = t310.toList then ((arboristlaw42_knows.f).bind fun t311 => (some t311)) else (none))) = some r := H; have A23 := qM A230; clear A230; replace H := Option.bind_eq_some_iff.mp H; obtain ⟨t310, A240, H⟩ := H; replace H : (if t309.toList = t310.toList then ((arboristlaw42_knows.f).bind fun t311 => (some t311)) else (none)) = some r := H; have A24 := qM A240; clear A240; refine iteM ?_ H; clear H; (intro c25 H); have c25b0 := beq_iff_eq.mpr c25; have c25b1 := bne_eq_false_iff_eq.mpr c25; clear c25; replace H := Option.bind_eq_some_iff.mp H; obtain ⟨t311, A260, H⟩ := H; replace H : (some t311) = some r := H; have A26 := qM A260; clear A260; obtain rfl := Option.some.inj H; (try go_wp2); replace BK302 := qM (qd BK302.out); replace BK303 := qM (qd BK303.out); replace HB := qM (qD HB.out)
     refine start_ (n := 20) (S := fun w' => w'.cell? ⟨gb302, 0, none⟩ = some (.slice A0_0 l0_0.length c0_0) ∧ w'.cell? ⟨gb302, 1, none⟩ = some (.slice A0_1 l0_1.length c0_1) ∧ w'.cell? ⟨gb302, 2, none⟩ = some (.slice A0_2 l0_2.length c0_2) ∧ w'.cell? ⟨gb302, 3, none⟩ = some (.slice A0_3 l0_3.length c0_3) ∧ w'.cell? ⟨gb302, 4, none⟩ = some (.slice A0_4 l0_4.length c0_4) ∧ w'.cell? ⟨gb303, 0, none⟩ = some (.int .i64 a1_0) ∧ w'.cell? ⟨gb303, 1, none⟩ = some (.int .i64 a1_1) ∧ w'.cell? ⟨gb303, 2, none⟩ = some (.int .i64 a1_2) ∧ w'.cell? ⟨gb303, 3, none⟩ = some (.int .i64 a1_3) ∧ w'.cell? ⟨gb303, 4, none⟩ = some (.slice A1_4 l1_4.length c1_4) ∧ w'.cell? ⟨gb303, 5, none⟩ = some (.string a1_5) ∧ w'.cell? ⟨gb303, 6, none⟩ = some (.slice A1_6 l1_6.length c1_6)) (ds := []) (Array.replicate 20 false) (by kernel_rfl) rfl rfl (by and_intros <;> first | exact qW | exact qv HB.out (by assumption)) (fun hHeld => ?_); refine with_tabW arboristlaw42_CstRight.tab3 arboristlaw42_CstRight.bits3 (fun HT_ HW_ => ?_)
     (generalize wc.drew = w27 at BK302 BK303 HB hHeld ⊢); refine Ord.enter 20 0 [.t 0 14, .t 1 15, .t 3 17, .t 4 18] (by kernel_rfl) ?_; (repeat ((first | (show Ord (.t _ _ :: _) _; refine Ord.take (v := ?_) (a' := ?_) HT_ HW_ ?_ hHeld ?_ ?_; rotate_left; (intro w' hSw; (try dsimp only at hSw); go_simp; with_reducible rfl))); rotate_left; (simp only [Act.put, List.setIfInBounds_toArray, List.set_cons_zero, List.set_cons_succ, i64_w, i32_w]; rfl))); refine Ord.done (fl 20 27) (by kernel_rfl) ?_; refine one_ (i := 2) (N := some 16) (fl 20 31) rfl rfl (one_of HT_.out (by kernel_rfl)) (by decide) (fun K hK => ?_); refine goes_ Tryd.func24 (by kernel_rfl) rfl #[.agg #[.slice A0_0 l0_0.length c0_0, .slice A0_1 l0_1.length c0_1, .slice A0_2 l0_2.length c0_2, .slice A0_3 l0_3.length c0_3, .slice A0_4 l0_4.length c0_4], .agg #[.int .i64 a1_0, .int .i64 a1_1, .int .i64 a1_2, .int .i64 a1_3, .slice A1_4 l1_4.length c1_4, .string a1_5, .slice A1_6 l1_6.length c1_6]] (by rfl) rfl rfl (by (try simp only [List.map_toArray, List.map_cons, List.map_nil]); first | done | rfl | (simp only [List.length_drop, List.length_take]; rfl)) ?_; (with_reducible refine (cst_Right.calls kj2 _ _ l0_0 _ _ l0_1 _ _ l0_2 _ _ l0_3 _ _ l0_4 a1_0 a1_1 a1_2 a1_3 _ _ l1_4 a1_5 _ _ l1_6 t307 _ ?side1 ?side2 ?side3 ?side4 ?side5 ?side6 ?side7 ?side8 ?side9 ?side10 ?side11 ?side12 ?side13 ?side14 A20.out).mono ?_); (case side1 | side3 | side5 | side7 => exact qY); (case side2 | side4 | side6 | side8 => exact qO)
     (case side9 | side11 | side13 => exact qY); (case side10 | side12 | side14 => exact qO); (rintro e w28 ⟨rfl, hb⟩); refine ⟨_, rfl, ?_⟩; replace BK302 := qM (qb (g := gb302) qK hb); replace BK303 := qM (qb (g := gb303) qK hb); replace HB := qM (qP qF hb); (try clear hb); (try clear hb2); (try clear hk); (try clear hi); refine hK.out _ _ (by and_intros <;> first | exact qW | exact qv HB.out (by assumption)) (fun hHeld => ?_); clear hK K; refine norm_ (a' := ?_) ?_ ?_; rotate_left; (show Act.put _ (some 16) _ = _; simp only [Act.put, List.setIfInBounds_toArray, List.set_cons_zero, List.set_cons_succ, i64_w, i32_w]; rfl); refine one_ (i := 5) (N := some 19) (fl 20 63) rfl rfl (one_of HT_.out (by kernel_rfl)) (by decide) (fun K hK => ?_)
     refine goes_ Tryd.func25 (by kernel_rfl) rfl #[.agg #[.slice A0_0 l0_0.length c0_0, .slice A0_1 l0_1.length c0_1, .slice A0_2 l0_2.length c0_2, .slice A0_3 l0_3.length c0_3, .slice A0_4 l0_4.length c0_4], .agg #[.int .i64 a1_0, .int .i64 a1_1, .int .i64 a1_2, .int .i64 a1_3, .slice A1_4 l1_4.length c1_4, .string a1_5, .slice A1_6 l1_6.length c1_6]] (by rfl) rfl rfl (by (try simp only [List.map_toArray, List.map_cons, List.map_nil]); first | done | rfl | (simp only [List.length_drop, List.length_take]; rfl)) ?_; (with_reducible refine (arboristref42_Right.calls kj2 _ _ l0_0 _ _ l0_1 _ _ l0_2 _ _ l0_3 _ _ l0_4 a1_0 a1_1 a1_2 a1_3 _ _ l1_4 a1_5 _ _ l1_6 t308 _ ?side1 ?side2 ?side3 ?side4 ?side5 ?side6 ?side7 ?side8 ?side9 ?side10 ?side11 ?side12 ?side13 ?side14 A21.out).mono ?_); (case side1 | side3 | side5 | side7 | side9 | side11 | side13 => exact qY); (case side2 | side4 | side6 | side8 | side10 | side12 | side14 => exact qO); (rintro e w29 ⟨rfl, hb⟩); refine ⟨_, rfl, ?_⟩; replace BK302 := qM (qb (g := gb302) qK hb)
     replace BK303 := qM (qb (g := gb303) qK hb); replace HB := qM (qP qF hb); (try clear hb); (try clear hb2); (try clear hk); (try clear hi); refine hK.out _ _ (by and_intros <;> first | exact qW | exact qv HB.out (by assumption)) (fun hHeld => ?_); clear hK K; refine norm_ (a' := ?_) ?_ ?_; rotate_left; (show Act.put _ (some 19) _ = _; simp only [Act.put, List.setIfInBounds_toArray, List.set_cons_zero, List.set_cons_succ, i64_w, i32_w]; rfl); refine Ord.enter 20 63 [.p 6 20, .p 7 21, .t 8 22, .t 9 23, .t 11 25, .t 12 26] (by kernel_rfl) ?_; (repeat ((first | (show Ord (.p _ _ :: _) _; refine Ord.pure (v := ?_) (a' := ?_) HT_ ?_ ?_ ?_; rotate_left; (intro w'; go_simp; with_reducible rfl)) | (show Ord (.t _ _ :: _) _; refine Ord.take (v := ?_) (a' := ?_) HT_ HW_ ?_ hHeld ?_ ?_; rotate_left; (intro w' hSw; (try dsimp only at hSw); go_simp; with_reducible rfl))); rotate_left; (simp only [Act.put, List.setIfInBounds_toArray, List.set_cons_zero, List.set_cons_succ, i64_w, i32_w]; rfl))); refine Ord.done (fl 20 7167) (by kernel_rfl) ?_; refine one_ (i := 10) (N := some 24) (fl 20 8191) rfl rfl (one_of HT_.out (by kernel_rfl)) (by decide) (fun K hK => ?_); refine goes_ Tryd.func26 (by kernel_rfl) rfl #[.agg #[.slice A0_0 l0_0.length c0_0, .slice A0_1 l0_1.length c0_1, .slice A0_2 l0_2.length c0_2, .slice A0_3 l0_3.length c0_3, .slice A0_4 l0_4.length c0_4], .agg #[.int .i64 a1_0, .int .i64 a1_1, .int .i64 a1_2, .int .i64 a1_3, .slice A1_4 l1_4.length c1_4, .string a1_5, .slice A1_6 l1_6.length c1_6]] (by rfl) rfl rfl (by (try simp only [List.map_toArray, List.map_cons, List.map_nil]); first | done | rfl | (simp only [List.length_drop, List.length_take]; rfl)) ?_
     (with_reducible refine (cst_Show.calls _ _ l0_0 _ _ l0_1 _ _ l0_2 _ _ l0_3 _ _ l0_4 a1_0 a1_1 a1_2 a1_3 _ _ l1_4 a1_5 _ _ l1_6 t309 _ ?side15 ?side1 ?side2 ?side3 ?side4 ?side5 ?side6 ?side7 ?side8 ?side9 ?side10 ?side11 ?side12 ?side13 ?side14 A23.out).mono ?_); (case side1 | side3 | side5 | side7 | side9 | side11 | side13 => exact qY); (case side2 | side4 | side6 | side8 | side10 | side12 | side14 => exact qO); (case side15 => exact GW.below HGW.out qF); (rintro e w30 ⟨rfl, hb⟩); refine ⟨_, rfl, ?_⟩; replace BK302 := qM (qb (g := gb302) qK hb); replace BK303 := qM (qb (g := gb303) qK hb)
     replace HB := qM (qP qF hb); (try clear hb); (try clear hb2); (try clear hk); (try clear hi); refine hK.out _ _ (by and_intros <;> first | exact qW | exact qv HB.out (by assumption)) (fun hHeld => ?_); clear hK K; refine norm_ (a' := ?_) ?_ ?_; rotate_left; (show Act.put _ (some 24) _ = _; simp only [Act.put, List.setIfInBounds_toArray, List.set_cons_zero, List.set_cons_succ, i64_w, i32_w]; rfl); refine one_ (i := 13) (N := some 27) (fl 20 16383) rfl rfl (one_of HT_.out (by kernel_rfl)) (by decide) (fun K hK => ?_); refine goes_ Tryd.func27 (by kernel_rfl) rfl #[.agg #[.slice A0_0 l0_0.length c0_0, .slice A0_1 l0_1.length c0_1, .slice A0_2 l0_2.length c0_2, .slice A0_3 l0_3.length c0_3, .slice A0_4 l0_4.length c0_4], .agg #[.int .i64 a1_0, .int .i64 a1_1, .int .i64 a1_2, .int .i64 a1_3, .slice A1_4 l1_4.length c1_4, .string a1_5, .slice A1_6 l1_6.length c1_6]] (by rfl) rfl rfl (by (try simp only [List.map_toArray, List.map_cons, List.map_nil]); first | done | rfl | (simp only [List.length_drop, List.length_take]; rfl)) ?_; (with_reducible refine (arboristref42_Show.calls kj2 _ _ l0_0 _ _ l0_1 _ _ l0_2 _ _ l0_3 _ _ l0_4 a1_0 a1_1 a1_2 a1_3 _ _ l1_4 a1_5 _ _ l1_6 t310 _ ?side1 ?side2 ?side3 ?side4 ?side5 ?side6 ?side7 ?side8 ?side9 ?side10 ?side11 ?side12 ?side13 ?side14 A24.out).mono ?_); (case side1 | side3 | side5 => exact qY); (case side2 | side4 => exact qO)
     (case side7 | side9 | side11 | side13 => exact qY); (case side6 | side8 | side10 | side12 | side14 => exact qO); (rintro e w31 ⟨rfl, hb⟩); refine ⟨_, rfl, ?_⟩; replace BK302 := qM (qb (g := gb302) qK hb); replace BK303 := qM (qb (g := gb303) qK hb); replace HB := qM (qP qF hb); (try clear hb); (try clear hb2); (try clear hk); (try clear hi); refine hK.out _ _ (by and_intros <;> first | exact qW | exact qv HB.out (by assumption)) (fun hHeld => ?_); clear hK K; refine norm_ (a' := ?_) ?_ ?_; rotate_left; (show Act.put _ (some 27) _ = _; simp only [Act.put, List.setIfInBounds_toArray, List.set_cons_zero, List.set_cons_succ, i64_w, i32_w]; rfl)
     refine Ord.enter 20 16383 [.p 14 28, .p 15 29, .p 16 30] (by kernel_rfl) ?_; (repeat ((first | (show Ord (.p _ _ :: _) _; refine Ord.pure (v := ?_) (a' := ?_) HT_ ?_ ?_ ?_; rotate_left; (intro w'; go_simp; with_reducible rfl))); rotate_left; (simp only [Act.put, List.setIfInBounds_toArray, List.set_cons_zero, List.set_cons_succ, i64_w, i32_w]; rfl))); refine Ord.done (fl 20 131071) (by kernel_rfl) ?_; refine one_ (i := 17) (N := some 31) (fl 20 262143) rfl rfl (one_of HT_.out (by kernel_rfl)) (by decide) (fun K hK => ?_); refine goes_ Tryd.func9 (by kernel_rfl) rfl #[] (by rfl) rfl rfl (by (try simp only [List.map_toArray, List.map_cons, List.map_nil]); first | done | rfl | (simp only [List.length_drop, List.length_take]; rfl)) ?_; (with_reducible refine (arboristlaw42_knows.calls  t311 _ ?side1 A26.out).mono ?_); (case side1 => exact GW.below HGW.out qF); (rintro e w32 ⟨rfl, hb⟩); refine ⟨_, rfl, ?_⟩; replace BK302 := qM (qb (g := gb302) qK hb); replace BK303 := qM (qb (g := gb303) qK hb); replace HB := qM (qP qF hb); (try clear hb); (try clear hb2); (try clear hk); (try clear hi); refine hK.out _ _ (by and_intros <;> first | exact qW | exact qv HB.out (by assumption)) (fun hHeld => ?_)
     clear hK K; refine norm_ (a' := ?_) ?_ ?_; rotate_left; (show Act.put _ (some 31) _ = _; simp only [Act.put, List.setIfInBounds_toArray, List.set_cons_zero, List.set_cons_succ, i64_w, i32_w]; rfl); refine pure_ (i := 18) (N := some 32) (v := ?_) (a' := ?_) (fl 20 524287) rfl rfl (any_of HT_.out (by kernel_rfl)) (fun _ _ _ h => h) (Or.inl ⟨by rfl, ?_⟩) ?_ ?_; rotate_left; (intro w'; go_simp; with_reducible rfl); rotate_left; (simp only [Act.put, List.setIfInBounds_toArray, List.set_cons_zero, List.set_cons_succ, i64_w, i32_w]; rfl); refine pure_ (i := 19) (N := some 4) (v := ?_) (a' := ?_) (fl 20 1048575) rfl rfl (any_of HT_.out (by kernel_rfl)) (fun _ _ _ h => h) (Or.inl ⟨by rfl, ?_⟩) ?_ ?_; rotate_left; (intro w'; go_simp; with_reducible rfl); rotate_left; (simp only [Act.put, List.setIfInBounds_toArray, List.set_cons_zero, List.set_cons_succ, i64_w, i32_w]; rfl); refine done_ (done_of HT_.out (by kernel_rfl)) ?_; (try go_wp2); (go_ret); exact ⟨qE, qF⟩
    ·have c22b0 : (t307 == t308) = false := by simpa using c22
     (try (have c22b1 : decide (t307 = t308) = false := by simpa using c22)); (try (have c22b2 : (t307 == t308) = false := by simpa using c22)); (try (have c22b3 : ¬ (t307 = t308) := by simpa using c22)); clear c22; exact absurd H (by simp)
end
section
open Go.Proofs.YtphmgaijkdflnaaDoorW.PrintWords Go.Proofs.YtphmgaijkdflnaaDoorW.PrintLast Go.Proofs.YtphmgaijkdflnaaDoorW.PrintMore
theorem sumL_mem : ∀ (l : List S61), ∀ x ∈ l, x.f1.length ≤ sumL l := by
 intro l
 induction l with
 | nil => intro x h; cases h
 | cons y r ih =>
  intro x h
  simp only [sumL]
  rcases List.mem_cons.1 h with rfl | h
  ·omega
  ·have := ih x h; omega
theorem Pure.CstRight (g : S40) (x : S26) (hg : ok40 g) (hx : ok26 x) (hb : wt40 g + wt26 x ≤ 1048576) : ∃ k, arboristlaw42_CstRight.f k g.f0 g.f1 g.f2 g.f3 g.f4 x.f0 x.f1 x.f2 x.f3 x.f4 x.f5 x.f6 = some true := by
 refine Ends.get (g := fun k => arboristlaw42_CstRight.f k g.f0 g.f1 g.f2 g.f3 g.f4 x.f0 x.f1 x.f2 x.f3 x.f4 x.f5 x.f6) ?_
 have hz : szList (fun s : ByteArray => s.size + 1) g.f0 ≤ 1048576 ∧ szList (fun s : ByteArray => s.size + 1) g.f1 ≤ 1048576 := by
  unfold wt40 at hb
  simp only at hb
  omega
 have b0 : ∀ y ∈ g.f0, y.size ≤ 1048576 := fun y hy => by have h_ : y.size + 1 ≤ szList (fun s : ByteArray => s.size + 1) _ := szList_mem (f := fun s : ByteArray => s.size + 1) hy; omega
 have b1 : ∀ y ∈ g.f1, y.size ≤ 1048576 := fun y hy => by have h_ : y.size + 1 ≤ szList (fun s : ByteArray => s.size + 1) _ := szList_mem (f := fun s : ByteArray => s.size + 1) hy; omega
 have h1 : g.f1.length ≤ 140737488355328 := by have := ((ok40_iff _).1 hg).2.1.1; unfold reachBytes at this; omega
 unfold arboristlaw42_CstRight.f
 have jt : Ends (fun k => arboristlaw42_CstRight.j0 k true g.f0 g.f1 g.f2 g.f3 g.f4 x.f0 x.f1 x.f2 x.f3 x.f4 x.f5 x.f6) true := Ends.step (fun k => arboristlaw42_CstRight.j0.eq_2 ..) (Ends.pos rfl knows_ends)
 obtain ⟨k0, v, hv, hp⟩ := few_ends g hg
 refine Ends.bind (Ends.of_mono (fun k => arboristref15_Few.mono _ _ _ _ _ _ k) ⟨k0, hv⟩) ?_
 cases v with
 | false => exact Ends.neg (by simp) jt
 | true =>
  have hs := hp rfl
  refine Ends.pos rfl (Ends.bind (tfew_ends x hx) ?_)
  by_cases hw : wN x ≤ 300
  case neg => rw [decide_eq_false hw]; exact jt
  rw [decide_eq_true hw]
  have h3 := hs.h3
  have h4 := hs.hs
  have hg' : ok40 ⟨g.f0, g.f1, g.f2, g.f3, g.f4⟩ := by cases g; exact hg
  refine Ends.step (fun k => arboristlaw42_CstRight.j0.eq_2 ..) (Ends.neg (by simp) ?_)
  refine Ends.bind (gright_ends g.f0 g.f1 g.f2 g.f3 g.f4 hg' (by omega) (fun z hz => by have := sumL_mem _ z hz; omega) x hx hw) ?_
  refine Ends.bind (rright_tree g.f0 g.f1 g.f2 g.f3 g.f4 hg' (by omega) x hx hw) (Ends.pos (by simp) ?_)
  have hshow : cst_Show.f g.f0 g.f1 g.f2 g.f3 g.f4 x.f0 x.f1 x.f2 x.f3 x.f4 x.f5 x.f6 = some (showV g.f0 g.f1 x) := by
   unfold cst_Show.f
   have := show_val g.f0 g.f1 g.f2 g.f3 g.f4 h1 b0 b1 x hw
   cases x; exact this
  exact Ends.bind0 hshow (Ends.bind (rshow_tree g.f0 g.f1 g.f2 g.f3 g.f4 h1 b0 b1 x hx hw) (Ends.pos rfl knows_ends))
end
end Go.Proofs.YtphmgaijkdflnaaDoor.H
end
section
namespace Go.Proofs.YtphmgaijkdflnaaDoor.H.cstRightUpto
open Go.ChangeShapes Go.WideShapes Go.ChangeAt Go.RowKit Go.Proofs.YtphmgaijkdflnaaDoorW.PrintWords Go.Proofs.YtphmgaijkdflnaaDoorW.PrintLast Go.Proofs.YtphmgaijkdflnaaDoorW.PrintMore
open Go.ChangeMaps (open_string shut_string)
set_option linter.unusedVariables false
set_option linter.unusedSimpArgs false
theorem own : ownKnob Tryd.prog.godebug = none := by kernel_rfl
theorem laidOut : laidOutB Tryd.prog = true := by kernel_rfl
noncomputable def laidWorld (os : Os) : World := { World.holding Tryd.prog os ⟨#[], #[], []⟩ with heap := ((((((World.holding Tryd.prog os ⟨#[], #[], []⟩).heap).modify 3 (fun | .cells _ t frozen => .cells (([0, 1, 28, 2, 29, 14, 24, 3, 30, 22, 20, 15, 25, 17, 4, 8, 31, 27, 13, 23, 21, 19, 16, 7, 26, 12, 18, 6, 11, 5, 10, 9] : List Int).map fun z => Value.int .u8 z).toArray t frozen | o => o)).modify 4 (fun | .cells _ t frozen => .cells (([0, 1, 56, 2, 57, 49, 28, 3, 61, 58, 42, 50, 38, 29, 17, 4, 62, 47, 59, 36, 45, 43, 51, 22, 53, 39, 33, 30, 24, 18, 12, 5, 63, 55, 48, 27, 60, 41, 37, 16, 46, 35, 44, 21, 52, 32, 23, 11, 54, 26, 40, 15, 34, 20, 31, 10, 25, 14, 19, 9, 13, 8, 7, 6] : List Int).map fun z => Value.int .u8 z).toArray t frozen | o => o)).modify 2 (fun | .cells _ t frozen => .cells (([1, 10, 100, 1000, 10000, 100000, 1000000, 10000000, 100000000, 1000000000, 10000000000, 100000000000, 1000000000000, 10000000000000, 100000000000000, 1000000000000000, 10000000000000000, 100000000000000000, 1000000000000000000, 10000000000000000000] : List Int).map fun z => Value.int .u64 z).toArray t frozen | o => o)).modify 1 (fun | .cells _ t frozen => .cells (([128, 191, 160, 191, 128, 159, 144, 191, 128, 143, 0, 0, 0, 0, 0, 0, 0, 0, 0, 0, 0, 0, 0, 0, 0, 0, 0, 0, 0, 0, 0, 0] : List Int).map fun z => Value.int .u8 z).toArray t frozen | o => o)).modify 0 (fun | .cells _ t frozen => .cells (([240, 240, 240, 240, 240, 240, 240, 240, 240, 240, 240, 240, 240, 240, 240, 240, 240, 240, 240, 240, 240, 240, 240, 240, 240, 240, 240, 240, 240, 240, 240, 240, 240, 240, 240, 240, 240, 240, 240, 240, 240, 240, 240, 240, 240, 240, 240, 240, 240, 240, 240, 240, 240, 240, 240, 240, 240, 240, 240, 240, 240, 240, 240, 240, 240, 240, 240, 240, 240, 240, 240, 240, 240, 240, 240, 240, 240, 240, 240, 240, 240, 240, 240, 240, 240, 240, 240, 240, 240, 240, 240, 240, 240, 240, 240, 240, 240, 240, 240, 240, 240, 240, 240, 240, 240, 240, 240, 240, 240, 240, 240, 240, 240, 240, 240, 240, 240, 240, 240, 240, 240, 240, 240, 240, 240, 240, 240, 240, 241, 241, 241, 241, 241, 241, 241, 241, 241, 241, 241, 241, 241, 241, 241, 241, 241, 241, 241, 241, 241, 241, 241, 241, 241, 241, 241, 241, 241, 241, 241, 241, 241, 241, 241, 241, 241, 241, 241, 241, 241, 241, 241, 241, 241, 241, 241, 241, 241, 241, 241, 241, 241, 241, 241, 241, 241, 241, 241, 241, 241, 241, 241, 241, 241, 241, 2, 2, 2, 2, 2, 2, 2, 2, 2, 2, 2, 2, 2, 2, 2, 2, 2, 2, 2, 2, 2, 2, 2, 2, 2, 2, 2, 2, 2, 2, 19, 3, 3, 3, 3, 3, 3, 3, 3, 3, 3, 3, 3, 35, 3, 3, 52, 4, 4, 4, 68, 241, 241, 241, 241, 241, 241, 241, 241, 241, 241, 241] : List Int).map fun z => Value.int .u8 z).toArray t frozen | o => o) }
set_option maxRecDepth 100000 in
theorem laid_met (os : Os) (args : Array Value) : laidMet Tryd.prog Rows.cstRightUptoRow.laid ((laidWorld os).forCall (fun _ _ => 0) ⟨#[], args, []⟩).memory := laidMet_of_run' 8 (by kernel_rfl) (by kernel_rfl)
set_option maxRecDepth 100000 in
theorem witness_row (os : Os) {H : Type} (enc : TypeId × Value → H) :
  (Rows.OpenSpec.upto Rows.cstRightSpec).preRow enc Tryd.prog Tryd.f5 Rows.cstRightUptoRow.domain false Rows.cstRightUptoRow.laid ((laidWorld os).forCall (fun _ _ => 0) ⟨#[], #[.agg #[.slice none 0 0, .slice none 0 0, .slice none 0 0, .slice none 0 0, .slice none 0 0], .agg #[.int .i64 0, .int .i64 0, .int .i64 0, .int .i64 0, .slice none 0 0, .string ⟨#[]⟩, .slice none 0 0]], []⟩).memory #[.agg #[.slice none 0 0, .slice none 0 0, .slice none 0 0, .slice none 0 0, .slice none 0 0], .agg #[.int .i64 0, .int .i64 0, .int .i64 0, .int .i64 0, .slice none 0 0, .string ⟨#[]⟩, .slice none 0 0]] := by
 have hw : (DataW.whole enc Tryd.prog ((laidWorld os).forCall (fun _ _ => 0) ⟨#[], #[.agg #[.slice none 0 0, .slice none 0 0, .slice none 0 0, .slice none 0 0, .slice none 0 0], .agg #[.int .i64 0, .int .i64 0, .int .i64 0, .int .i64 0, .slice none 0 0, .string ⟨#[]⟩, .slice none 0 0]], []⟩).memory Tryd.f5.params.toList (Rows.OpenSpec.upto Rows.cstRightSpec).vars false (#[.agg #[.slice none 0 0, .slice none 0 0, .slice none 0 0, .slice none 0 0, .slice none 0 0], .agg #[.int .i64 0, .int .i64 0, .int .i64 0, .int .i64 0, .slice none 0 0, .string ⟨#[]⟩, .slice none 0 0]] : Array Value).toList 8).map (fun x => (x.1, x.2.1)) =
   some ([.agg [.nil, .nil, .nil, .nil, .nil], .agg [.lit (.int .i64 0), .lit (.int .i64 0), .lit (.int .i64 0), .lit (.int .i64 0), .nil, .lit (.string []), .nil]], []) := by kernel_rfl
 obtain ⟨⟨x1, x2, x3⟩, hx, hx1⟩ := Option.map_eq_some_iff.1 hw
 simp only [Prod.mk.injEq] at hx1
 obtain ⟨rfl, rfl⟩ := hx1
 exact OpenSpec.preRow_of_cond 8 hx (by kernel_rfl) (fun k hk => by cases hk; rfl) (by kernel_rfl) (laid_met os _)
set_option maxRecDepth 100000 in
set_option maxHeartbeats 2000000 in
theorem lifted (os : Os) (started : os.Started) (H : Type) (enc : TypeId × Value → H) (F : Stop.Interp) :
  ReturnsInHanded {} Tryd.checked os 5 .any ((Rows.OpenSpec.upto Rows.cstRightSpec).preRow enc Tryd.prog Tryd.f5 Rows.cstRightUptoRow.domain false Rows.cstRightUptoRow.laid) (((Rows.OpenSpec.upto Rows.cstRightSpec).at F).post enc Tryd.prog Tryd.f5 false true false false) := by
 refine returnsInHanded_of_row (C := Tryd.checked) (s := (Rows.OpenSpec.upto Rows.cstRightSpec)) own started (by kernel_rfl) Tryd.func5
  (witness_row_at (enc := enc) (C := Tryd.checked) false (laidWorld os) #[.agg #[.slice none 0 0, .slice none 0 0, .slice none 0 0, .slice none 0 0, .slice none 0 0], .agg #[.int .i64 0, .int .i64 0, .int .i64 0, .int .i64 0, .slice none 0 0, .string ⟨#[]⟩, .slice none 0 0]] rfl (by kernel_rfl) (by kernel_rfl) (by kernel_rfl) (witness_row os enc)) ?_
 intro W base args ds gs before hval0 hW _ hcond0 hsz0 hL hsh _
 have hsz : (DataW.weightsEach Tryd.prog (Tryd.f5.params.toList ++ (Rows.OpenSpec.upto Rows.cstRightSpec).bare.plain.varTypes Tryd.prog) (ds ++ gs)).all (· ≤ reachBytes) = true := hsz0
 have hval : ∀ (j : Nat) t v, Tryd.f5.params[j]? = some t → args[j]? = some v → Value.okWide Tryd.prog W .any base t v := hval0
 have hW' := hW
 obtain ⟨p, q, hA0, hV0, rfl, _, _⟩ := hW
 have hA : DataW.TrodAll enc Tryd.prog W 0 (fun _ => true) true Tryd.f5.params.toList args.toList ds p := hA0
 rw [Tryd.params5] at hA hval hsz
 obtain ⟨v0, vs0, d0, ds0, p0, q0, hargs, rfl, rfl, h0, r0⟩ := trodAll_cons hA
 obtain ⟨v1, vs1, d1, ds1, p1, q1, rfl, rfl, rfl, h1, r1⟩ := trodAll_cons r0
 obtain ⟨rfl, rfl, rfl⟩ := trodAll_nil r1
 obtain rfl : args = #[v0, v1] := by cases args; simp_all
 obtain ⟨rfl, rfl⟩ := trodVars_none hV0
 have hlt : ∀ x ∈ p0 ++ (p1 ++ ([])), x.block < W.heap.size := fun x hx => by simpa using hW'.lt x (by simpa using hx)
 obtain ⟨c0, rfl, hc0⟩ := okWide_struct Tryd.underlying40 (hval 0 40 v0 rfl rfl)
 obtain ⟨a0, hK0, ok0_, sz0_⟩ := Opens.of (fun b => opens_k40 b) hsz (j := 0) (t := 40) rfl rfl h0
 obtain ⟨A0_0, c0_0, A0_1, c0_1, A0_2, c0_2, A0_3, c0_3, A0_4, c0_4, e0_, l0_0, g0_0, l0_1, g0_1, l0_2, g0_2, l0_3, g0_3, l0_4, g0_4⟩ := k40_open hK0
 obtain rfl : c0 = #[.slice A0_0 a0.f0.length c0_0, .slice A0_1 a0.f1.length c0_1, .slice A0_2 a0.f2.length c0_2, .slice A0_3 a0.f3.length c0_3, .slice A0_4 a0.f4.length c0_4] := by cases c0; simp_all [Value.cells]
 obtain ⟨c1, rfl, hc1⟩ := okWide_struct Tryd.underlying26 (hval 1 26 v1 rfl rfl)
 obtain ⟨a1, hK1, ok1_, sz1_⟩ := Opens.of (fun b => opens_k26 b) hsz (j := 1) (t := 26) rfl rfl h1
 obtain ⟨A1_4, c1_4, A1_6, c1_6, e1_, l1_4, g1_4, l1_6, g1_6⟩ := k26_open hK1
 obtain rfl : c1 = #[.int .i64 a1.f0, .int .i64 a1.f1, .int .i64 a1.f2, .int .i64 a1.f3, .slice A1_4 a1.f4.length c1_4, .string a1.f5, .slice A1_6 a1.f6.length c1_6] := by cases c1; simp_all [Value.cells]
 have hgw : GW W := gw_of hsh (Go.Lib.laidMet.reads hL (List.Mem.tail _ (List.Mem.tail _ (List.Mem.head _)))) (Go.Lib.laidMet.reads hL (List.Mem.tail _ (List.Mem.tail _ (List.Mem.tail _ (List.Mem.tail _ (List.Mem.head _)))))) (Go.Lib.laidMet.reads hL (List.Mem.tail _ (List.Mem.tail _ (List.Mem.tail _ (List.Mem.head _))))) (Go.Lib.laidMet.reads hL (List.Mem.tail _ (List.Mem.head _)))
 have hcond : Rows.uptoSmall H _ = true := hcond0 _ rfl
 have hb : wt40 a0 + wt26 a1 ≤ 1048576 := by
  simp [Rows.uptoSmall, Rows.uptoBulkAll, Rows.uptoBulk] at hcond
  (try simp only [])
  (try have w0_ : wt40 a0 = 0 := rfl)
  (try have w1_ : wt26 a1 = 0 := rfl)
  omega
 clear hsz0 hA0 hV0 hval0
 obtain ⟨k, hf⟩ := Pure.CstRight a0 a1 ok0_ ok1_ hb
 refine (arboristlaw42_CstRight.calls k _ _ a0.f0 _ _ a0.f1 _ _ a0.f2 _ _ a0.f3 _ _ a0.f4 a1.f0 a1.f1 a1.f2 a1.f3 _ _ a1.f4 a1.f5 _ _ a1.f6 true W hgw g0_0 l0_0 g0_1 l0_1 g0_2 l0_2 g0_3 l0_3 g0_4 l0_4 g1_4 l1_4 g1_6 l1_6 hf).mono fun e W' ⟨he, bel⟩ => ?_
 subst he
 exact ⟨_, rfl, _, _, _, [], _, [], hW', trodAll_mk1 (shut_bool Tryd.underlying4 _), (trodAll_cons_mk (Below.trod laidOut (by kernel_rfl) (of_decide_eq_true (by kernel_rfl)) h0 bel (fun x hx => hlt x (by simp [hx]))) (trodAll_cons_mk (Below.trod laidOut (by kernel_rfl) (of_decide_eq_true (by kernel_rfl)) h1 bel (fun x hx => hlt x (by simp [hx]))) trodAll_mk0)), rfl, bel.frame _, fun h => by cases h⟩
set_option maxRecDepth 100000 in
theorem holds : Rows.cstRightUptoRow.holds Tryd.pinned (Rows.OpenSpec.upto Rows.cstRightSpec) :=
 OpenClaim.holds_of_cond 5 Tryd.f5 rfl rfl rfl rfl rfl rfl rfl ⟨rfl, rfl, rfl, rfl, rfl⟩ rfl rfl rfl rfl rfl (by kernel_rfl) Tryd.func5 (by kernel_rfl)
  (of_decide_eq_true (by kernel_rfl)) (by unfold Func.isWrapper; first | (rw [if_pos (by decide +kernel)]; kernel_rfl) | (rw [if_neg (by decide +kernel)]; exact ⟨rfl, rfl⟩))
  (fun os started H enc _ F0 => by rw [OpenClaim.pre_eq_preRow]; exact lifted os started H enc F0)
set_option maxRecDepth 100000 in
theorem card : Rows.CstRightUptoCardSaid :=
 Claim7.holds_tied_plain_at .later [] [.data, .data, .data, .data, .pinned] true (true, "d5cdaa30bb89ef6c8005c66b0274befb33d87d1f4327f431305be44b4451cda0") false
  holds (fun _ h => by cases h) (by kernel_rfl) (fun _ h => by cases h) cstRightUpto_row_tie rfl ⟨rfl, rfl⟩ (by kernel_rfl) rfl
  (fun f fn hf hfn => by
   obtain rfl : f = 5 := Option.some.inj ((show Tryd.prog.funcNamed "arborist/arboristlaw42.CstRight" = some 5 by kernel_rfl).symm.trans hf) |>.symm
   obtain rfl : fn = Tryd.f5 := (Option.some.inj (Tryd.func5.symm.trans hfn)).symm
   exact ⟨by kernel_rfl, fun j t ht => by
    rw [Tryd.params5] at ht
    rcases j with _ | j
    ·obtain rfl : t = 40 := by simpa using ht.symm
     kernel_rfl
    rcases j with _ | j
    ·obtain rfl : t = 26 := by simpa using ht.symm
     kernel_rfl
    ·simp at ht⟩)
  (by kernel_rfl)
#print axioms card
end Go.Proofs.YtphmgaijkdflnaaDoor.H.cstRightUpto
namespace Go.Proofs.YtphmgaijkdflnaaDoor
theorem cstRightUpto_card : Rows.CstRightUptoCardSaid := H.cstRightUpto.card
#print axioms cstRightUpto_card
end Go.Proofs.YtphmgaijkdflnaaDoor
end
