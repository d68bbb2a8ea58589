import Derived.Test.YtgchidlombijbaaDoorZn3
section
namespace Go.Proofs.YtgchidlombijbaaDoor.H
open Go.RowKit Go.Proofs.YtgchidlombijbaaDoorW.PrintWords Go.Proofs.YtgchidlombijbaaDoorW.PrintLast Go.Proofs.YtgchidlombijbaaDoorW.PrintMore
open Go.Maps
set_option linter.unusedVariables false
set_option linter.unusedSimpArgs false
def termsGo (n : Int) : (Int → Bool) → List Int → Option (Int → Bool)
  | met, [] => some met
  | met, t :: r => if 2 ≤ t ∧ t ≤ n - 1 ∧ met t = false then termsGo n (fun z => z == t || met z) r else none
def levelsGo (n : Int) : (Int → Bool) → List S46 → Int
  | _, [] => 0
  | met, x :: r => if 1 ≤ x.f0 ∧ x.f0 ≤ 4 then (match termsGo n met x.f1 with | none => 24 | some m => levelsGo n m r) else 24
def rulesGo (k : Nat) (l0_0 l0_1 : List ByteArray) (l0_2 : List Int) (l0_3 : List S43) (l0_4 : List S46) : Int → List S43 → Option Int
  | _, [] => some 0
  | ahead, x :: r => (grammar_rule.f k l0_0 l0_1 l0_2 l0_3 l0_4 x.f0 x.f1 x.f2 x.f3 x.f4 ahead).bind fun e => if e = 0 then rulesGo k l0_0 l0_1 l0_2 l0_3 l0_4 x.f0 r else some e
def grammar_Right.ok (l0 : List ByteArray) (l4 : List S46) : Bool := decide (l0.length ≤ 1000000) && decide (l4.length ≤ 1000000) && l4.all (fun x => decide (x.f1.length ≤ 1000000) && x.f1.all (fun t => decide (-9223372036854775808 ≤ t) && decide (t ≤ 9223372036854775807)))
def grammar_Right.f (k : Nat) (l0_0 : List ByteArray) (l0_1 : List ByteArray) (l0_2 : List Int) (l0_3 : List S43) (l0_4 : List S46) : Option Int :=
  (grammar_counts.f k l0_0 l0_1 l0_2 l0_3 l0_4).bind fun c => if c = true then
    ((grammar_twice.f l0_0).bind fun t => if t = true then some 8 else
      ((grammar_twice.f l0_1).bind fun u => if u = true then some 8 else
        ((grammar_start.f k l0_0 l0_1 l0_2 l0_3 l0_4).bind fun s => if s = true then
          ((rulesGo k l0_0 l0_1 l0_2 l0_3 l0_4 0 l0_3).bind fun e => if e = 0 then
            (if grammar_Right.ok l0_0 l0_4 = true then some (levelsGo l0_0.length (fun _ => false) l0_4) else none)
          else some e)
        else some 23)))
  else some 9
def MM {H : Type} (D : DataW H) (met : Int → Bool) : Prop := ∀ z : Int, D.atKey (.int .i64 z) (.lit (.int .i64 0)) = .lit (.int .i64 (if met z = true then 1 else 0))
theorem MM.zero {H : Type} : MM (H := H) (.map []) (fun _ => false) := fun z => by simp [DataW.atKey]
theorem MM.put {H : Type} {D : DataW H} {met : Int → Bool} (h : MM D met) (hm : Maps.IsMap D) (t : Int) : MM (D.put (.int .i64 t) (.lit (.int .i64 1))) (fun z => z == t || met z) := fun z => by
  have hk : WideAt.IsKeyLit (.int .i64 t) := trivial
  by_cases e : z = t
  · subst e
    rw [Maps.atKey_put_same hm hk]
    simp
  · rw [Maps.atKey_put_other (fun he => e (by injection he)), h z]
    simp [e]
theorem law_int : Keyed Tryd.prog 3 := int_keyed Tryd.underlying3
def Cap (n j i : Nat) : Prop := n ≤ j * 1000000 + i
set_option maxRecDepth 100000
theorem Cap.zero : Cap 0 0 0 := Nat.zero_le _
theorem Cap.step {n j i : Nat} (h : Cap n j i) : Cap (n + 1) j (i + 1) := by unfold Cap at *; omega
theorem Cap.next {n j i : Nat} (h : Cap n j i) (hi : i ≤ 1000000) : Cap n (j + 1) 0 := by
  unfold Cap at *
  rw [Nat.succ_mul, Nat.add_zero]
  exact Nat.le_trans h (Nat.add_le_add_left hi _)
theorem Cap.lt {n j i l : Nat} (h : Cap n j i) (hj : j < l) (hl : l ≤ 1000000) (hi : i ≤ 1000000) : n < maxLen := by
  unfold Cap at h
  have h2 : j * 1000000 ≤ l * 1000000 := Nat.mul_le_mul_right _ (Nat.le_of_lt hj)
  have h3 : l * 1000000 ≤ 1000000 * 1000000 := Nat.mul_le_mul_right _ hl
  have h4 : n ≤ 1000000 * 1000000 + 1000000 := Nat.le_trans h (Nat.add_le_add (Nat.le_trans h2 h3) hi)
  refine Nat.lt_of_le_of_lt h4 ?_
  unfold maxLen
  decide
theorem within_no {t n : Int} (h : ¬ (2 ≤ t ∧ t ≤ n)) : grammar_within.f t 2 n = some false := by
  unfold grammar_within.f
  by_cases h5 : t ≥ 2
  · rw [if_pos h5, decide_eq_false (fun z => h ⟨h5, z⟩)]
  · rw [if_neg h5]
theorem rulesGo.mono (l0_0 l0_1 : List ByteArray) (l0_2 : List Int) (l0_3 : List S43) (l0_4 : List S46) (k : Nat) : ∀ (l : List S43) (a : Int), LeO (rulesGo k l0_0 l0_1 l0_2 l0_3 l0_4 a l) (rulesGo (k + 1) l0_0 l0_1 l0_2 l0_3 l0_4 a l)
  | [], a => LeO.refl _
  | x :: r, a => LeO.bind (grammar_rule.mono _ _ _ _ _ _ _ _ _ _ _ k) fun e => LeO.ite (rulesGo.mono _ _ _ _ _ k r _) (LeO.refl _)
theorem grammar_Right.mono : ∀ a0 a1 a2 a3 a4 k, LeO (grammar_Right.f k a0 a1 a2 a3 a4) (grammar_Right.f (k + 1) a0 a1 a2 a3 a4) := by
  intro a0 a1 a2 a3 a4 k
  unfold grammar_Right.f
  refine LeO.bind (grammar_counts.mono _ _ _ _ _ k) fun c => LeO.ite ?_ (LeO.refl _)
  refine LeO.bind (LeO.refl _) fun t => LeO.ite (LeO.refl _) ?_
  refine LeO.bind (LeO.refl _) fun u => LeO.ite (LeO.refl _) ?_
  refine LeO.bind (grammar_start.mono _ _ _ _ _ k) fun s => LeO.ite ?_ (LeO.refl _)
  exact LeO.bind (rulesGo.mono _ _ _ _ _ k _ _) fun e => LeO.refl _
set_option maxHeartbeats 800000 in
set_option maxRecDepth 100000 in
theorem grammar_Right.calls (k : Nat) (A0_0 : Option Addr) (c0_0 : Nat) (l0_0 : List ByteArray) (A0_1 : Option Addr) (c0_1 : Nat) (l0_1 : List ByteArray) (A0_2 : Option Addr) (c0_2 : Nat) (l0_2 : List Int) (A0_3 : Option Addr) (c0_3 : Nat) (l0_3 : List (S43)) (A0_4 : Option Addr) (c0_4 : Nat) (l0_4 : List (S46)) (r : Int) (w : World) (hr0_0 : Kd.C Kd.string w A0_0 l0_0.length l0_0) (hc0_0 : l0_0.length ≤ c0_0) (hr0_1 : Kd.C Kd.string w A0_1 l0_1.length l0_1) (hc0_1 : l0_1.length ≤ c0_1) (hr0_2 : Kd.C (Kd.int .i64) w A0_2 l0_2.length l0_2) (hc0_2 : l0_2.length ≤ c0_2) (hr0_3 : Kd.C k43 w A0_3 l0_3.length l0_3) (hc0_3 : l0_3.length ≤ c0_3) (hr0_4 : Kd.C k46 w A0_4 l0_4.length l0_4) (hc0_4 : l0_4.length ≤ c0_4) (h : grammar_Right.f k l0_0 l0_1 l0_2 l0_3 l0_4 = some r) :
    Calls Tryd.prog 10 #[.agg #[.slice A0_0 l0_0.length c0_0, .slice A0_1 l0_1.length c0_1, .slice A0_2 l0_2.length c0_2, .slice A0_3 l0_3.length c0_3, .slice A0_4 l0_4.length c0_4]] w fun e w' => e = .returned (.int .i64 r) ∧ Below w.heap.size w w' := by
  have HG := Aside0.mk (InG.mk hr0_0 hc0_0 hr0_1 hc0_1 hr0_2 hc0_2 hr0_3 hc0_3 hr0_4 hc0_4)
  clear hr0_0 hc0_0 hr0_1 hc0_1 hr0_2 hc0_2 hr0_3 hc0_3 hr0_4 hc0_4
  have hmm := @run_makeMap Tryd.prog
  have hb3 : l0_3.length ≤ 9223372036854775807 := HG.out.r3.2.1
  have hb4 : l0_4.length ≤ 9223372036854775807 := HG.out.r4.2.1
  have hu := Tryd.underlying27
  have hur := Tryd.underlying43
  have hul := Tryd.underlying46
  unfold grammar_Right.f at h
  obtain ⟨c, hcnt, h1⟩ := Option.bind_eq_some_iff.mp h
  clear h
  have HCN := Aside0.mk hcnt
  clear hcnt
  go_enter Tryd.func10, Tryd.ntmps10
  cases c with
  | false =>
    obtain rfl : r = 9 := by simpa using h1.symm
    clear h1
    go_wp2_with (go_at_call 25; refine ((HG.out.below (below_alloc (Below.refl _ _) _)).counts HCN.out).mono ?_; rintro e w1 ⟨rfl, hb⟩; have HB := Aside0.mk (below_step (below_alloc (Below.refl _ _) _) hb); clear hb)
    go_ret
    exact ⟨rfl, HB.out⟩
  | true =>
    simp only [if_true] at h1
    obtain ⟨t, htw, h⟩ := Option.bind_eq_some_iff.mp h1
    clear h1
    have HTW := Aside0.mk htw
    clear htw
    go_wp2_with (go_at_call 25; refine ((HG.out.below (below_alloc (Below.refl _ _) _)).counts HCN.out).mono ?_; rintro e w1 ⟨rfl, hb⟩; have HB := Aside0.mk (below_step (below_alloc (Below.refl _ _) _) hb); have BK := Aside0.mk (GB.below (GB.new w (A0 := A0_0) (c0 := c0_0) (l0 := l0_0) (A1 := A0_1) (c1 := c0_1) (l1 := l0_1) (A2 := A0_2) (c2 := c0_2) (l2 := l0_2) (A3 := A0_3) (c3 := c0_3) (l3 := l0_3) (A4 := A0_4) (c4 := c0_4) (l4 := l0_4)) hb); clear hb; obtain ⟨hcz0, hcz1, hcz2, hcz3, hcz4⟩ := BK.out.cells)
    refine (grammar_twice.calls _ _ l0_0 t _ (Kd.C_below HG.out.r0 HB.out) HG.out.h0 HTW.out).mono ?_
    rintro e w2 ⟨rfl, hb⟩
    replace HB := Aside0.mk (below_step HB.out hb)
    replace BK := Aside0.mk (BK.out.below hb)
    clear hcz0 hcz1 hcz2 hcz3 hcz4 hb HTW
    obtain ⟨hcz0, hcz1, hcz2, hcz3, hcz4⟩ := BK.out.cells
    cases t with
    | true =>
      obtain rfl : r = 8 := by simpa using h.symm
      clear h
      go_wp2_with fail
      go_ret
      exact ⟨rfl, HB.out⟩
    | false =>
    simp only [Bool.false_eq_true, if_false] at h
    obtain ⟨u, htw, h2⟩ := Option.bind_eq_some_iff.mp h
    clear h
    have HTW := Aside0.mk htw
    have HH := Aside0.mk h2
    clear htw h2
    go_wp2_with fail
    refine (grammar_twice.calls _ _ l0_1 u _ (Kd.C_below HG.out.r1 HB.out) HG.out.h1 HTW.out).mono ?_
    rintro e w3 ⟨rfl, hb⟩
    replace HB := Aside0.mk (below_step HB.out hb)
    replace BK := Aside0.mk (BK.out.below hb)
    clear hcz0 hcz1 hcz2 hcz3 hcz4 hb HTW
    obtain ⟨hcz0, hcz1, hcz2, hcz3, hcz4⟩ := BK.out.cells
    cases u with
    | true =>
      obtain rfl : r = 8 := by simpa using HH.out.symm
      go_wp2_with fail
      go_ret
      exact ⟨rfl, HB.out⟩
    | false =>
    have h := HH.out
    clear HH
    simp only [Bool.false_eq_true, if_false] at h
    obtain ⟨s, hst, h2⟩ := Option.bind_eq_some_iff.mp h
    clear h
    have HST := Aside0.mk hst
    have HH := Aside0.mk h2
    clear hst h2
    go_wp2_with fail
    refine ((HG.out.below HB.out).start HST.out).mono ?_
    rintro e w4 ⟨rfl, hb⟩
    replace HB := Aside0.mk (below_step HB.out hb)
    replace BK := Aside0.mk (BK.out.below hb)
    clear hcz0 hcz1 hcz2 hcz3 hcz4 hb HST
    obtain ⟨hcz0, hcz1, hcz2, hcz3, hcz4⟩ := BK.out.cells
    cases s with
    | false =>
      obtain rfl : r = 23 := by simpa using HH.out.symm
      go_wp2_with fail
      go_ret
      exact ⟨rfl, HB.out⟩
    | true =>
    have h := HH.out
    clear HH
    simp only [if_true] at h
    have HH := Aside0.mk h
    clear h
    go_wp2_with fail
    go_loopw [3, 32] (fun v3 v32 wr => ∃ (a : Int) (i : Nat), v3 = .int .i64 a ∧ i ≤ l0_3.length ∧ v32 = .int .i64 i ∧ Aside0 (((rulesGo k l0_0 l0_1 l0_2 l0_3 l0_4 a (l0_3.drop i)).bind fun e => if e = 0 then
            (if grammar_Right.ok l0_0 l0_4 = true then some (levelsGo l0_0.length (fun _ => false) l0_4) else none)
          else some e) = some r) ∧ Aside0 (GB wr w.heap.size A0_0 c0_0 l0_0 A0_1 c0_1 l0_1 A0_2 c0_2 l0_2 A0_3 c0_3 l0_3 A0_4 c0_4 l0_4) ∧ Aside0 (Below w.heap.size w wr))
      (fun _ v32 _ => l0_3.length - (intOf v32).toNat)
    case atStart => exact ⟨0, 0, rfl, Nat.zero_le _, rfl, HH, BK, HB⟩
    case round =>
      clear HH BK HB hcz0 hcz1 hcz2 hcz3 hcz4
      obtain ⟨a, i, rfl, hi, rfl, HH, BK, HB⟩ := hrel
      have hsz : w.heap.size < wr.heap.size := blk_lt BK.out
      have hne : ¬ (w.heap.size = wr.heap.size) := Nat.ne_of_lt hsz
      obtain ⟨hcz0, hcz1, hcz2, hcz3, hcz4⟩ := BK.out.cells
      by_cases hlt : i < l0_3.length
      · obtain ⟨ad, A1, c1, A2, c2, e0, hx0, hx1, hx2, hx3, hx4, hl1, hi1, hl2, hi2⟩ := at_T43 HG.out.r3 (i : Int) (by omega) (by omega)
        cases e0
        simp only [Int.toNat_natCast] at hx0 hx1 hx2 hx3 hx4
        replace hx0 := (HB.out.cell (World.block_lt_of_cell? w _ hx0)).trans hx0
        replace hx1 := (HB.out.cell (World.block_lt_of_cell? w _ hx1)).trans hx1
        replace hx2 := (HB.out.cell (World.block_lt_of_cell? w _ hx2)).trans hx2
        replace hx3 := (HB.out.cell (World.block_lt_of_cell? w _ hx3)).trans hx3
        replace hx4 := (HB.out.cell (World.block_lt_of_cell? w _ hx4)).trans hx4
        have HI1 := Aside0.mk hi1
        have HI2 := Aside0.mk hi2
        clear hi1 hi2
        have h := HH.out
        rw [List.drop_eq_getElem_cons hlt, show l0_3[i] = rd_T43 l0_3 (i : Int) from by simp [rd_T43, List.getD_eq_getElem?_getD, List.getElem?_eq_getElem hlt]] at h
        simp only [rulesGo, Option.bind_assoc] at h
        obtain ⟨e1, hrl, h2⟩ := Option.bind_eq_some_iff.mp h
        have HRL := Aside0.mk hrl
        have HH2 := Aside0.mk h2
        clear h h2 hrl HH
        go_wp2_with fail
        refine (grammar_rule.calls k _ _ l0_0 _ _ l0_1 _ _ l0_2 _ _ l0_3 _ _ l0_4 _ _ _ _ _ _ _ _ _ a e1 _ ?s0 HG.out.h0 ?s1 HG.out.h1 ?s2 HG.out.h2 ?s3 HG.out.h3 ?s4 HG.out.h4 ?t1 hl1 ?t2 hl2 HRL.out).mono ?_
        case s0 => exact Kd.C_below HG.out.r0 (by repeat (first | exact HB.out | refine below_set ?_ (Nat.le_of_lt hsz) | apply below_alloc))
        case s1 => exact Kd.C_below HG.out.r1 (by repeat (first | exact HB.out | refine below_set ?_ (Nat.le_of_lt hsz) | apply below_alloc))
        case s2 => exact Kd.C_below HG.out.r2 (by repeat (first | exact HB.out | refine below_set ?_ (Nat.le_of_lt hsz) | apply below_alloc))
        case s3 => exact Kd.C_below HG.out.r3 (by repeat (first | exact HB.out | refine below_set ?_ (Nat.le_of_lt hsz) | apply below_alloc))
        case s4 => exact Kd.C_below HG.out.r4 (by repeat (first | exact HB.out | refine below_set ?_ (Nat.le_of_lt hsz) | apply below_alloc))
        case t1 => exact Kd.C_below HI1.out (by repeat (first | exact HB.out | refine below_set ?_ (Nat.le_of_lt hsz) | apply below_alloc))
        case t2 => exact Kd.C_below HI2.out (by repeat (first | exact HB.out | refine below_set ?_ (Nat.le_of_lt hsz) | apply below_alloc))
        rintro e w5 ⟨rfl, hb⟩
        have HB2 := Aside0.mk (below_step (w := w) (by repeat (first | exact HB.out | refine below_set ?_ (Nat.le_of_lt hsz) | apply below_alloc)) hb)
        have BK2 := Aside0.mk (show GB w5 w.heap.size A0_0 c0_0 l0_0 A0_1 c0_1 l0_1 A0_2 c0_2 l0_2 _ c0_3 l0_3 A0_4 c0_4 l0_4 from blk_below (g := w.heap.size) (by repeat (first | exact BK.out | refine blk_far ?_ hne _ | refine blk_alloc ?_ _)) hb)
        have BX := Aside0.mk (blk_below (g := wr.heap.size) (o := .cells #[.int .i64 (rd_T43 l0_3 (i : Int)).f0, .slice A1 (rd_T43 l0_3 (i : Int)).f1.length c1, .slice A2 (rd_T43 l0_3 (i : Int)).f2.length c2, .string (rd_T43 l0_3 (i : Int)).f3, .int .i64 (rd_T43 l0_3 (i : Int)).f4] 43 (0, 0)) (blk_new wr _) hb)
        clear hx0 hx1 hx2 hx3 hx4 hb hcz0 hcz1 hcz2 hcz3 hcz4
        have hy0 : w5.cell? ⟨wr.heap.size, 0, none⟩ = some (.int .i64 (rd_T43 l0_3 (i : Int)).f0) := (blk_cell BX.out 0).trans rfl
        by_cases he : e1 = 0
        · subst he
          have HR2 := Aside0.mk HH2.out
          simp only [if_true] at HR2
          go_wp2_with fail
          go_roundw
          case rel => exact ⟨_, i + 1, rfl, by omega, by go_num, HR2, BK2, HB2⟩
          case measure => simp [intOf]; omega
        · obtain rfl : r = e1 := by have := HH2.out; rw [if_neg he] at this; simpa [he] using this.symm
          have hq1 : (r == 0) = false := beq_eq_false_iff_ne.mpr he
          have hq2 : (r != 0) = true := bne_iff_ne.mpr he
          go_wp2_with fail
          go_ret
          exact ⟨rfl, HB2.out⟩
      · have hie : i = l0_3.length := by omega
        subst hie
        have h := HH.out
        rw [List.drop_of_length_le (Nat.le_refl _)] at h
        simp only [rulesGo, Option.bind_some, if_true] at h
        split at h
        case isFalse => cases h
        rename_i hok
        have HR := Aside0.mk (Option.some.inj h)
        have HOK := Aside0.mk hok
        clear h hok HH
        simp only [grammar_Right.ok, Bool.and_eq_true, decide_eq_true_eq, List.all_eq_true] at HOK
        have hT0 : l0_0.length ≤ 1000000 := HOK.out.1.1
        have hT4 : l0_4.length ≤ 1000000 := HOK.out.1.2
        have HX := Aside0.mk HOK.out.2
        clear HOK hcz0 hcz1 hcz2 hcz3
        obtain ⟨wo, rfl⟩ : ∃ wo : World, wo = wr := ⟨_, rfl⟩
        go_wp2_with fail
        go_loopw [50] (fun v50 wr => ∃ (j n : Nat) (met : Int → Bool), j ≤ l0_4.length ∧ v50 = .int .i64 j ∧ Aside0 (Cap n j 0) ∧ (∃ D : DataW Unit, Aside0 (wr.ownsMap Tryd.prog 3 (plainElem Tryd.prog 3) wo.heap.size n D) ∧ Aside0 (MM D met)) ∧ Aside0 (levelsGo l0_0.length met (l0_4.drop j) = r) ∧ Aside0 (GB wr w.heap.size A0_0 c0_0 l0_0 A0_1 c0_1 l0_1 A0_2 c0_2 l0_2 A0_3 c0_3 l0_3 A0_4 c0_4 l0_4) ∧ Aside0 (Below w.heap.size w wr))
          (fun v50 _ => l0_4.length - (intOf v50).toNat)
        case atStart => exact ⟨0, 0, fun _ => false, Nat.zero_le _, rfl, ⟨Cap.zero⟩, ⟨.map [], ⟨World.ownsMap_made _ _ _ _⟩, ⟨MM.zero⟩⟩, HR, ⟨blk_alloc BK.out _⟩, ⟨below_alloc HB.out _⟩⟩
        case round =>
          clear HR BK HB hcz4
          obtain ⟨j, n, met, hj, rfl, hn, ⟨D, HO, HD⟩, HR, BK, HB⟩ := hrel
          obtain ⟨hcz0, hcz1, hcz2, hcz3, hcz4⟩ := BK.out.cells
          have hsz2 : w.heap.size < wr.heap.size := blk_lt BK.out
          have hne2 : ¬ (w.heap.size = wr.heap.size) := Nat.ne_of_lt hsz2
          by_cases hlt2 : j < l0_4.length
          · obtain ⟨ad, A1, c1, e0, hx0, hx1, hl1, hi1⟩ := at_T46 HG.out.r4 (j : Int) (by omega) (by omega)
            cases e0
            simp only [Int.toNat_natCast] at hx0 hx1
            replace hx0 := (HB.out.cell (World.block_lt_of_cell? w _ hx0)).trans hx0
            replace hx1 := (HB.out.cell (World.block_lt_of_cell? w _ hx1)).trans hx1
            have HX1 := Aside0.mk (HX.out (l0_4[j]) (List.getElem_mem hlt2))
            have HR1 := HR.out
            rw [List.drop_eq_getElem_cons hlt2] at HR1
            have ex : l0_4[j] = rd_T46 l0_4 (j : Int) := by simp [rd_T46, List.getD_eq_getElem?_getD, List.getElem?_eq_getElem hlt2]
            rw [ex] at HR1 HX1
            simp only [levelsGo] at HR1
            obtain ⟨x, hx⟩ : ∃ x, x = rd_T46 l0_4 (j : Int) := ⟨_, rfl⟩
            rw [← hx] at HR1 HX1 hx0 hx1 hl1 hi1
            have HR2 := Aside0.mk HR1
            have HI := Aside0.mk hi1
            clear ex hx HR1 HR hi1
            by_cases h1 : 1 ≤ x.f0
            · by_cases h2 : x.f0 ≤ 4
              · have HR1 := HR2.out
                rw [if_pos ⟨h1, h2⟩] at HR1
                have HR3 := Aside0.mk HR1
                clear HR1 HR2
                have hxl : x.f1.length ≤ 1000000 := HX1.out.1
                have q1 : decide (x.f0 < 1) = false := decide_eq_false (by omega)
                have q2 : decide (4 < x.f0) = false := decide_eq_false (by omega)
                go_wp2_with fail
                obtain ⟨wq, rfl⟩ : ∃ wq : World, wq = wr := ⟨_, rfl⟩
                go_loopw [65] (fun v65 wr => ∃ (i m : Nat) (met : Int → Bool), i ≤ x.f1.length ∧ v65 = .int .i64 i ∧ Aside0 (Cap m j i) ∧ (∃ D : DataW Unit, Aside0 (wr.ownsMap Tryd.prog 3 (plainElem Tryd.prog 3) wo.heap.size m D) ∧ Aside0 (MM D met)) ∧ Aside0 ((match termsGo l0_0.length met (x.f1.drop i) with | none => 24 | some m => levelsGo l0_0.length m (l0_4.drop (j + 1))) = r) ∧ Aside0 (GB wr w.heap.size A0_0 c0_0 l0_0 A0_1 c0_1 l0_1 A0_2 c0_2 l0_2 A0_3 c0_3 l0_3 _ c0_4 l0_4) ∧ Aside0 (Below w.heap.size w wr))
                  (fun v65 _ => x.f1.length - (intOf v65).toNat)
                case atStart => exact ⟨0, n, met, Nat.zero_le _, rfl, hn, ⟨D, ⟨HO.out.alloc _⟩, HD⟩, HR3, ⟨blk_alloc BK.out _⟩, ⟨below_alloc HB.out _⟩⟩
                case round =>
                  clear HR3 BK HB HO HD hx0 hx1 hcz0 hcz1 hcz2 hcz3 hcz4
                  obtain ⟨i, m, met, hi, rfl, hm, ⟨D, HO, HD⟩, HR, BK, HB⟩ := hrel
                  obtain ⟨hcz0, hcz1, hcz2, hcz3, hcz4⟩ := BK.out.cells
                  by_cases hlt : i < x.f1.length
                  · obtain ⟨ad, e0, hcell⟩ := Kd.at_int HI.out (i : Int) (by omega) (by omega)
                    cases e0
                    rw [Int.toNat_natCast] at hcell
                    replace hcell := (HB.out.cell (World.block_lt_of_cell? w _ hcell)).trans hcell
                    have HR1 := HR.out
                    rw [List.drop_eq_getElem_cons hlt, show x.f1[i] = rd x.f1 (i : Int) from by simp [rd, List.getD_eq_getElem?_getD, List.getElem?_eq_getElem hlt]] at HR1
                    have HW := Aside0.mk (HX1.out.2 (x.f1[i]) (List.getElem_mem hlt))
                    rw [show x.f1[i] = rd x.f1 (i : Int) from by simp [rd, List.getD_eq_getElem?_getD, List.getElem?_eq_getElem hlt]] at HW
                    simp only [termsGo] at HR1
                    generalize rd x.f1 (i : Int) = t at *
                    have HR2 := Aside0.mk HR1
                    clear HR1 HR
                    have ht1 : -9223372036854775808 ≤ t := HW.out.1
                    have ht2 : t ≤ 9223372036854775807 := HW.out.2
                    have hwt : (Lit.int .i64 t).wf = true := WalkArith.wf_i64 (by omega)
                    by_cases h3 : 2 ≤ t ∧ t ≤ (l0_0.length : Int) - 1
                    · have HWI : Aside0 (grammar_within.f t 2 ((l0_0.length : Int) - 1) = some true) := ⟨by unfold grammar_within.f; rw [if_pos (by omega)]; simp [h3.2]⟩
                      have HA0 := Aside0.mk (HD.out t)
                      cases hmt : met t with
                      | true =>
                        have HAT : Aside0 (D.atKey (.int .i64 t) (.lit (.int .i64 0)) = .lit (.int .i64 1)) := ⟨by rw [HA0.out, hmt]; rfl⟩
                        obtain rfl : r = 24 := by have := HR2.out; rw [if_neg (by simp [hmt])] at this; exact this.symm
                        clear hmt
                        go_wp2_with (first | (go_at_call 29; refine (grammar_within.calls _ _ _ true _ HWI.out).mono ?_; rintro e w' ⟨rfl, ⟨nd, rfl⟩⟩) | (at_lookup; refine gate_guard (by rfl) ?_; dsimp only; refine wpList_lookup_own_int _ rfl _ _ 51 rfl 3 3 .i64 law_int Tryd.underlying51 Tryd.underlying3 (zero_int _) wo.heap.size m _ rfl (owns_drewN HO.out nd) _ _ rfl (keyOf_int_mk Tryd.underlying3 hwt) ?_; intro c hat hwc; obtain rfl := lit_int_inj HAT.out hat; clear hat))
                        go_ret
                        exact ⟨rfl, pw_below_drewN HB.out _⟩
                      | false =>
                        have HAT : Aside0 (D.atKey (.int .i64 t) (.lit (.int .i64 0)) = .lit (.int .i64 0)) := ⟨by rw [HA0.out, hmt]; rfl⟩
                        have HR3 := HR2.out
                        rw [if_pos ⟨h3.1, h3.2, hmt⟩] at HR3
                        have HR4 := Aside0.mk HR3
                        have hml : m < maxLen := hm.out.lt hlt2 hT4 (by omega)
                        clear hmt HR3 HR2
                        go_wp2_with (first | (go_at_call 29; refine (grammar_within.calls _ _ _ true _ HWI.out).mono ?_; rintro e w' ⟨rfl, ⟨nd, rfl⟩⟩) | (at_lookup; refine gate_guard (by rfl) ?_; dsimp only; refine wpList_lookup_own_int _ rfl _ _ 51 rfl 3 3 .i64 law_int Tryd.underlying51 Tryd.underlying3 (zero_int _) wo.heap.size m _ rfl (owns_drewN HO.out nd) _ _ rfl (keyOf_int_mk Tryd.underlying3 hwt) ?_; intro c hat hwc; obtain rfl := lit_int_inj HAT.out hat; clear hat) | (at_mapUpdate; refine wpList_mapUpdate_own _ rfl _ _ _ 51 rfl 3 3 law_int Tryd.underlying51 _ wo.heap.size m _ rfl (owns_drewN HO.out _) hml _ _ _ rfl rfl (keyOf_int_mk Tryd.underlying3 hwt) _ [] (plainElem_int Tryd.underlying3 (WalkArith.wf_i64 (by omega))) ?_; intro w8 hown1 hgrow1))
                        have R1 := Aside0.mk hown1
                        have hwo : w.heap.size < wo.heap.size := hsz
                        have R2 := Aside0.mk ((pw_below_drewN HB.out _).grown hgrow1 HB.out.size (fun j hj => by cases hj; exact Nat.le_of_lt hwo))
                        have R3 := Aside0.mk (GB.grown (w := wr.drewN _) BK.out hgrow1 (by simpa using Nat.ne_of_lt hwo))
                        clear hown1 hgrow1 hcell hcz0 hcz1 hcz2 hcz3 hcz4
                        go_wp2_with fail
                        go_roundw
                        case rel => exact ⟨i + 1, m + 1, _, by omega, by go_num, ⟨hm.out.step⟩, ⟨_, R1, ⟨HD.out.put HO.out.isMap t⟩⟩, HR4, R3, R2⟩
                        case measure => simp [intOf]; omega
                    · have HWI : Aside0 (grammar_within.f t 2 ((l0_0.length : Int) - 1) = some false) := ⟨within_no h3⟩
                      obtain rfl : r = 24 := by have := HR2.out; rw [if_neg (fun z => h3 ⟨z.1, z.2.1⟩)] at this; exact this.symm
                      go_wp2_with (go_at_call 29; refine (grammar_within.calls _ _ _ false _ HWI.out).mono ?_; rintro e w' ⟨rfl, ⟨nd, rfl⟩⟩)
                      go_ret
                      exact ⟨rfl, pw_below_drewN HB.out _⟩
                  · have hie : i = x.f1.length := by omega
                    have HR1 := HR.out
                    rw [hie, List.drop_of_length_le (Nat.le_refl _)] at HR1
                    simp only [termsGo] at HR1
                    have HR4 := Aside0.mk HR1
                    have hn2 : Aside0 (Cap m (j + 1) 0) := ⟨hm.out.next (by omega)⟩
                    clear HR1 HR hie
                    go_wp2_with fail
                    go_roundw
                    case rel => exact ⟨j + 1, m, met, by omega, by go_num, hn2, ⟨D, HO, HD⟩, HR4, BK, HB⟩
                    case measure => simp [intOf]; omega
              · obtain rfl : r = 24 := by have := HR2.out; rw [if_neg (fun z => h2 z.2)] at this; exact this.symm
                have q1 : decide (x.f0 < 1) = false := decide_eq_false (by omega)
                have q2 : decide (4 < x.f0) = true := decide_eq_true (by omega)
                go_wp2_with fail
                go_ret
                exact ⟨rfl, below_alloc HB.out _⟩
            · obtain rfl : r = 24 := by have := HR2.out; rw [if_neg (fun z => h1 z.1)] at this; exact this.symm
              have q1 : decide (x.f0 < 1) = true := decide_eq_true (by omega)
              go_wp2_with fail
              go_ret
              exact ⟨rfl, below_alloc HB.out _⟩
          · have hje : j = l0_4.length := by omega
            obtain rfl : r = 0 := by have := HR.out; rw [hje, List.drop_of_length_le (Nat.le_refl _)] at this; simpa [levelsGo] using this.symm
            go_wp2_with fail
            go_ret
            exact ⟨rfl, HB.out⟩
end Go.Proofs.YtgchidlombijbaaDoor.H
end
section
namespace Go.Proofs.YtgchidlombijbaaDoor.H
open Go.RowKit Go.Proofs.YtgchidlombijbaaDoorW.PrintWords Go.Proofs.YtgchidlombijbaaDoorW.PrintLast Go.Proofs.YtgchidlombijbaaDoorW.PrintMore
attribute [local go_sem] max2_int min2_int max_two min_two max_three min_three max_four min_four
set_option linter.unusedVariables false
set_option linter.unusedSimpArgs false
mutual
def arboristref15_Few.j1 : Nat → Int → Int → List ByteArray → List ByteArray → List Int → List (S43) → List (S46) → Option (Bool)
 | 0, _, _, _, _, _, _, _ => none
 | k + 1, x1, x5, x152000, x152001, x152002, x152003, x152004 => arboristref15_Few.l1 k x1 x5 0 x152000 x152001 x152002 x152003 x152004
def arboristref15_Few.l1 : Nat → Int → Int → Int → List ByteArray → List ByteArray → List Int → List (S43) → List (S46) → Option (Bool)
 | 0, _, _, _, _, _, _, _, _ => none
 | k + 1, x1, x5, x7, x152000, x152001, x152002, x152003, x152004 => if x7 < (x152004.length : Int) then (if x7 < 50 then (if 0 ≤ x7 then (arboristref15_Few.l1 k x1 (wrap64 (x5 + (((rd_T46 x152004 x7).f1).length : Int))) (wrap64 (x7 + 1)) x152000 x152001 x152002 x152003 x152004) else (none)) else (if (x152003.length : Int) ≤ x1 then (if (x152000.length : Int) ≤ 60 then (if (x152001.length : Int) ≤ 60 then (if (x152002.length : Int) ≤ 60 then (if (x152004.length : Int) ≤ 40 then (some (decide (x5 ≤ (wrap64 ((wrap64 (8 * x1)) + 40))))) else (some false)) else (some false)) else (some false)) else (some false)) else (some false))) else (if (x152003.length : Int) ≤ x1 then (if (x152000.length : Int) ≤ 60 then (if (x152001.length : Int) ≤ 60 then (if (x152002.length : Int) ≤ 60 then (if (x152004.length : Int) ≤ 40 then (some (decide (x5 ≤ (wrap64 ((wrap64 (8 * x1)) + 40))))) else (some false)) else (some false)) else (some false)) else (some false)) else (some false))
def arboristref15_Few.l0 : Nat → Int → Int → Int → List ByteArray → List ByteArray → List Int → List (S43) → List (S46) → Option (Bool)
 | 0, _, _, _, _, _, _, _, _ => none
 | k + 1, x1, x5, x6, x152000, x152001, x152002, x152003, x152004 => if x6 < (x152003.length : Int) then (if x6 ≤ x1 then (if 0 ≤ x6 then (arboristref15_Few.l0 k x1 (wrap64 (x5 + (wrap64 ((((rd_T43 x152003 x6).f1).length : Int) + (((rd_T43 x152003 x6).f2).length : Int))))) (wrap64 (x6 + 1)) x152000 x152001 x152002 x152003 x152004) else (none)) else (arboristref15_Few.j1 k x1 x5 x152000 x152001 x152002 x152003 x152004)) else (arboristref15_Few.j1 k x1 x5 x152000 x152001 x152002 x152003 x152004)
end
def arboristref15_Few.f (k : Nat) (l0_0 : List ByteArray) (l0_1 : List ByteArray) (l0_2 : List Int) (l0_3 : List (S43)) (l0_4 : List (S46)) (a1 : Int) : Option (Bool) := arboristref15_Few.l0 k a1 0 0 l0_0 l0_1 l0_2 l0_3 l0_4
theorem arboristref15_Few.mono_l : ∀ k, (∀ y0 y1 y2 y3 y4 y5 y6, LeO (arboristref15_Few.j1 k y0 y1 y2 y3 y4 y5 y6) (arboristref15_Few.j1 (k + 1) y0 y1 y2 y3 y4 y5 y6)) ∧ (∀ y0 y1 y2 y3 y4 y5 y6 y7, LeO (arboristref15_Few.l1 k y0 y1 y2 y3 y4 y5 y6 y7) (arboristref15_Few.l1 (k + 1) y0 y1 y2 y3 y4 y5 y6 y7)) ∧ (∀ y0 y1 y2 y3 y4 y5 y6 y7, LeO (arboristref15_Few.l0 k y0 y1 y2 y3 y4 y5 y6 y7) (arboristref15_Few.l0 (k + 1) y0 y1 y2 y3 y4 y5 y6 y7))
 | 0 => ⟨fun _ _ _ _ _ _ _ r h => by simp [arboristref15_Few.j1] at h, fun _ _ _ _ _ _ _ _ r h => by simp [arboristref15_Few.l1] at h, fun _ _ _ _ _ _ _ _ r h => by simp [arboristref15_Few.l0] at h⟩
 | k + 1 => by
  (obtain ⟨ih0, ih1, ih2⟩ := arboristref15_Few.mono_l k); (refine ⟨?_, ?_, ?_⟩)
  ·intro y0 y1 y2 y3 y4 y5 y6
   unfold arboristref15_Few.j1
   repeat' first
   | (with_reducible exact ih0 _ _ _ _ _ _ _)
   | (with_reducible exact ih1 _ _ _ _ _ _ _ _)
   | (with_reducible exact ih2 _ _ _ _ _ _ _ _)
   | (with_reducible exact LeO.refl _)
   | (with_reducible exact LeO.none _)
   | (with_reducible refine LeO.ite ?_ ?_)
   | (with_reducible refine LeO.bind ?_ (fun _ => ?_))
   | exact ih0 _ _ _ _ _ _ _
   | exact ih1 _ _ _ _ _ _ _ _
   | exact ih2 _ _ _ _ _ _ _ _
   | exact LeO.none _
   | refine LeO.ite ?_ ?_
   | refine LeO.bind ?_ (fun _ => ?_)
  ·intro y0 y1 y2 y3 y4 y5 y6 y7
   unfold arboristref15_Few.l1
   repeat' first
   | (with_reducible exact ih0 _ _ _ _ _ _ _)
   | (with_reducible exact ih1 _ _ _ _ _ _ _ _)
   | (with_reducible exact ih2 _ _ _ _ _ _ _ _)
   | (with_reducible exact LeO.refl _)
   | (with_reducible exact LeO.none _)
   | (with_reducible refine LeO.ite ?_ ?_)
   | (with_reducible refine LeO.bind ?_ (fun _ => ?_))
   | exact ih0 _ _ _ _ _ _ _
   | exact ih1 _ _ _ _ _ _ _ _
   | exact ih2 _ _ _ _ _ _ _ _
   | exact LeO.none _
   | refine LeO.ite ?_ ?_
   | refine LeO.bind ?_ (fun _ => ?_)
  ·intro y0 y1 y2 y3 y4 y5 y6 y7
   unfold arboristref15_Few.l0
   repeat' first
   | (with_reducible exact ih0 _ _ _ _ _ _ _)
   | (with_reducible exact ih1 _ _ _ _ _ _ _ _)
   | (with_reducible exact ih2 _ _ _ _ _ _ _ _)
   | (with_reducible exact LeO.refl _)
   | (with_reducible exact LeO.none _)
   | (with_reducible refine LeO.ite ?_ ?_)
   | (with_reducible refine LeO.bind ?_ (fun _ => ?_))
   | exact ih0 _ _ _ _ _ _ _
   | exact ih1 _ _ _ _ _ _ _ _
   | exact ih2 _ _ _ _ _ _ _ _
   | exact LeO.none _
   | refine LeO.ite ?_ ?_
   | refine LeO.bind ?_ (fun _ => ?_)
theorem arboristref15_Few.mono : ∀ a0 a1 a2 a3 a4 a5 k, LeO (arboristref15_Few.f k a0 a1 a2 a3 a4 a5) (arboristref15_Few.f (k + 1) a0 a1 a2 a3 a4 a5) := by
 (intro a0 a1 a2 a3 a4 a5 k); (obtain ⟨ih0, ih1, ih2⟩ := arboristref15_Few.mono_l k); (unfold arboristref15_Few.f)
 repeat' first
   | (with_reducible exact ih0 _ _ _ _ _ _ _)
   | (with_reducible exact ih1 _ _ _ _ _ _ _ _)
   | (with_reducible exact ih2 _ _ _ _ _ _ _ _)
   | (with_reducible exact LeO.refl _)
   | (with_reducible exact LeO.none _)
   | (with_reducible refine LeO.ite ?_ ?_)
   | (with_reducible refine LeO.bind ?_ (fun _ => ?_))
   | exact ih0 _ _ _ _ _ _ _
   | exact ih1 _ _ _ _ _ _ _ _
   | exact ih2 _ _ _ _ _ _ _ _
   | exact LeO.none _
   | refine LeO.ite ?_ ?_
   | refine LeO.bind ?_ (fun _ => ?_)
set_option maxHeartbeats 8000000 in
set_option maxRecDepth 100000 in
theorem arboristref15_Few.calls (k : Nat) (A0_0 : Option Addr) (c0_0 : Nat) (l0_0 : List ByteArray) (A0_1 : Option Addr) (c0_1 : Nat) (l0_1 : List ByteArray) (A0_2 : Option Addr) (c0_2 : Nat) (l0_2 : List Int) (A0_3 : Option Addr) (c0_3 : Nat) (l0_3 : List (S43)) (A0_4 : Option Addr) (c0_4 : Nat) (l0_4 : List (S46)) (a1 : Int) (r : Bool) (w : World) (hr0_0 : Kd.C Kd.string w A0_0 l0_0.length l0_0) (hc0_0 : l0_0.length ≤ c0_0) (hr0_1 : Kd.C Kd.string w A0_1 l0_1.length l0_1) (hc0_1 : l0_1.length ≤ c0_1) (hr0_2 : Kd.C (Kd.int .i64) w A0_2 l0_2.length l0_2) (hc0_2 : l0_2.length ≤ c0_2) (hr0_3 : Kd.C k43 w A0_3 l0_3.length l0_3) (hc0_3 : l0_3.length ≤ c0_3) (hr0_4 : Kd.C k46 w A0_4 l0_4.length l0_4) (hc0_4 : l0_4.length ≤ c0_4) (h : arboristref15_Few.f k l0_0 l0_1 l0_2 l0_3 l0_4 a1 = some r) :
  Calls Tryd.prog 7 #[.agg #[.slice A0_0 l0_0.length c0_0, .slice A0_1 l0_1.length c0_1, .slice A0_2 l0_2.length c0_2, .slice A0_3 l0_3.length c0_3, .slice A0_4 l0_4.length c0_4], .int .i64 a1] w fun e w' => e = .returned (.bool r) ∧ Below w.heap.size w w' := by
 (have hu27 := Tryd.underlying27); (have HR0_0 := qM hr0_0); (have HC0_0 := qM hc0_0); clear hr0_0 hc0_0; (have HR0_1 := qM hr0_1); (have HC0_1 := qM hc0_1); clear hr0_1 hc0_1; (have HR0_2 := qM hr0_2); (have HC0_2 := qM hc0_2); clear hr0_2 hc0_2; (have HR0_3 := qM hr0_3); (have HC0_3 := qM hc0_3); clear hr0_3 hc0_3; (have HR0_4 := qM hr0_4); (have HC0_4 := qM hc0_4); clear hr0_4 hc0_4; (have HB := qM (Below.refl w.heap.size w)); (have H : (arboristref15_Few.l0 k a1 0 0 l0_0 l0_1 l0_2 l0_3 l0_4) = some r := h); clear h; (have HC3 := qM H); clear H; (go_enter Tryd.func7, Tryd.ntmps7)
 go_upto_block 0 with (first | ((with_reducible refine gate_dst (N := 2) rfl ?_); (try (refine gate_guard (by rfl) ?_; dsimp only)); refine box_event ?hg (N := 2) ?hd (cs := #[.slice A0_0 l0_0.length c0_0, .slice A0_1 l0_1.length c0_1, .slice A0_2 l0_2.length c0_2, .slice A0_3 l0_3.length c0_3, .slice A0_4 l0_4.length c0_4]) (t := 27) ?hr ?_; (case hd => rfl); (case hg => rfl); (case hr => first | (go_simp; done) | (go_simp; rfl)); intro gb151 hg w4 hbox hb; have n0_ := qM (qP (by repeat (first | (with_reducible first | exact HB.out | apply qA | apply qN | apply qD) | exact HB.out)) hb); have n1_ := qM (hbox); have n2_ := qM ((by rw [hg]; exact (qZ (by repeat (first | (with_reducible first | exact HB.out | apply qA | apply qN | apply qD) | exact HB.out))) : w.heap.size ≤ gb151)); have n3_ := qM ((by rw [hg]; exact (qZ (by repeat (first | (with_reducible first | exact HB.out | apply qA | apply qN | apply qD) | exact HB.out))) : w.heap.size ≤ gb151)); clear HB; have HB := n0_; have BK151 := n1_; have GW151 := n2_; have GE151 := n3_; clear n0_ n1_ n2_ n3_; clear hb hbox hg))
 repeat (go_quiet (first | ((with_reducible refine gate_dst (N := 2) rfl ?_); (try (refine gate_guard (by rfl) ?_; dsimp only)); refine box_event ?hg (N := 2) ?hd (cs := #[.slice A0_0 l0_0.length c0_0, .slice A0_1 l0_1.length c0_1, .slice A0_2 l0_2.length c0_2, .slice A0_3 l0_3.length c0_3, .slice A0_4 l0_4.length c0_4]) (t := 27) ?hr ?_; (case hd => rfl); (case hg => rfl); (case hr => first | (go_simp; done) | (go_simp; rfl)); intro gb151 hg w4 hbox hb; have n0_ := qM (qP (by repeat (first | (with_reducible first | exact HB.out | apply qA | apply qN | apply qD) | exact HB.out)) hb); have n1_ := qM (hbox); have n2_ := qM ((by rw [hg]; exact (qZ (by repeat (first | (with_reducible first | exact HB.out | apply qA | apply qN | apply qD) | exact HB.out))) : w.heap.size ≤ gb151)); have n3_ := qM ((by rw [hg]; exact (qZ (by repeat (first | (with_reducible first | exact HB.out | apply qA | apply qN | apply qD) | exact HB.out))) : w.heap.size ≤ gb151)); clear HB; have HB := n0_; have BK151 := n1_; have GW151 := n2_; have GE151 := n3_; clear n0_ n1_ n2_ n3_; clear hb hbox hg)); go_upto_block 0 with (first | ((with_reducible refine gate_dst (N := 2) rfl ?_); (try (refine gate_guard (by rfl) ?_; dsimp only)); refine box_event ?hg (N := 2) ?hd (cs := #[.slice A0_0 l0_0.length c0_0, .slice A0_1 l0_1.length c0_1, .slice A0_2 l0_2.length c0_2, .slice A0_3 l0_3.length c0_3, .slice A0_4 l0_4.length c0_4]) (t := 27) ?hr ?_; (case hd => rfl); (case hg => rfl); (case hr => first | (go_simp; done) | (go_simp; rfl)); intro gb151 hg w4 hbox hb; have n0_ := qM (qP (by repeat (first | (with_reducible first | exact HB.out | apply qA | apply qN | apply qD) | exact HB.out)) hb); have n1_ := qM (hbox); have n2_ := qM ((by rw [hg]; exact (qZ (by repeat (first | (with_reducible first | exact HB.out | apply qA | apply qN | apply qD) | exact HB.out))) : w.heap.size ≤ gb151)); have n3_ := qM ((by rw [hg]; exact (qZ (by repeat (first | (with_reducible first | exact HB.out | apply qA | apply qN | apply qD) | exact HB.out))) : w.heap.size ≤ gb151)); clear HB; have HB := n0_; have BK151 := n1_; have GW151 := n2_; have GE151 := n3_; clear n0_ n1_ n2_ n3_; clear hb hbox hg)))
 ((try simp only [Act.put, List.setIfInBounds_toArray, List.set_cons_zero, List.set_cons_succ])); (go_cut [5] (fun v5 wc => ∃ (kq : Nat) (x5_2 : Int), v5 = .int .i64 x5_2 ∧ Aside0 (arboristref15_Few.j1 kq a1 x5_2 l0_0 l0_1 l0_2 l0_3 l0_4 = some r) ∧ Aside0 (kq ≤ k) ∧ Aside0 (wc.heap[gb151]? = some (.cells #[(.slice A0_0 l0_0.length c0_0), (.slice A0_1 l0_1.length c0_1), (.slice A0_2 l0_2.length c0_2), (.slice A0_3 l0_3.length c0_3), (.slice A0_4 l0_4.length c0_4)] 27 (0, 0))) ∧ Aside0 (Below w.heap.size w wc)))
 case first =>
  (have H := HC3.out); clear HC3; (have H' := qM H); clear H; go_wp2; (repeat (go_quiet (fail); try go_wp2)); (go_loopg [5, 6] k (fun kq v5 v6 w' => ∃ (x5_1 : Int) (x6_1 : Int), v5 = .int .i64 x5_1 ∧ v6 = .int .i64 x6_1 ∧ Aside0 (arboristref15_Few.l0 kq a1 x5_1 x6_1 l0_0 l0_1 l0_2 l0_3 l0_4 = some r) ∧ Aside0 (kq ≤ k) ∧ Aside0 (w'.heap[gb151]? = some (.cells #[(.slice A0_0 l0_0.length c0_0), (.slice A0_1 l0_1.length c0_1), (.slice A0_2 l0_2.length c0_2), (.slice A0_3 l0_3.length c0_3), (.slice A0_4 l0_4.length c0_4)] 27 (0, 0))) ∧ Aside0 (Below w.heap.size w w')))
  case atStart => exact ⟨(0), (0), (by first | rfl | (simp; done) | (simp [*]; done)), (by first | rfl | (simp; done) | (simp [*]; done)), H', ⟨Nat.le_refl _⟩, ⟨by (with_reducible repeat (first | refine qn ?_ _ | refine qd ?_ | refine qa ?_ _)); exact BK151.out⟩, ⟨by repeat (first | (with_reducible first | exact HB.out | apply qA | apply qN | apply qD | refine qS ?_ GE151.out) | exact HB.out)⟩⟩
  case round =>
   (clear H'); (try clear p2); (obtain ⟨x5_1, x6_1, rfl, rfl, HA, HK1, BK151, HB⟩ := hrel)
   cases gk with
   | zero => exact absurd HA.out (by simp [arboristref15_Few.l0])
   | succ k1 =>
    (have H := HA.out); clear HA; (simp only [arboristref15_Few.l0] at H); (by_cases c5 : x6_1 < (l0_3.length : Int))
    ·rw [if_pos c5] at H
     (have c5b0 : decide (x6_1 < (l0_3.length : Int)) = true := decide_eq_true c5); clear c5; ((first | rw [c5b0] | (simp only [i64_w, i32_w]; rw [c5b0]) | skip)); (by_cases c6 : x6_1 ≤ a1)
     ·rw [if_pos c6] at H
      (have c6b0 : decide (x6_1 ≤ a1) = true := decide_eq_true c6); clear c6; (by_cases c7 : 0 ≤ x6_1)
      ·rw [if_pos c7] at H
       (have c7b0 : decide (0 ≤ x6_1) = true := decide_eq_true c7); clear c7; (have H' := qM H); clear H; (obtain ⟨hcz8_0, hcz8_1, hcz8_2, hcz8_3, hcz8_4, hfz8_0, hfz8_1, hfz8_2, hfz8_3, hfz8_4⟩ := bx5 BK151.out); (have p152 : 0 ≤ (x6_1 : Int) := qo (by first | (with_reducible assumption) | assumption)); (have q152 : x6_1 < (l0_3.length : Int) := qo (by first | (with_reducible assumption) | assumption)); (obtain ⟨ad152, A152_1, c152_1, A152_2, c152_2, e152, hx152_0, hx152_1, hx152_2, hx152_3, hx152_4, hl152_1, hi152_1, hl152_2, hi152_2⟩ := at_T43 HR0_3.out x6_1 p152 q152)
       cases e152
       (replace hx152_0 := (HB.out.cell (qB w _ hx152_0)).trans hx152_0); (replace hx152_1 := (HB.out.cell (qB w _ hx152_1)).trans hx152_1); (replace hx152_2 := (HB.out.cell (qB w _ hx152_2)).trans hx152_2); (replace hx152_3 := (HB.out.cell (qB w _ hx152_3)).trans hx152_3); (replace hx152_4 := (HB.out.cell (qB w _ hx152_4)).trans hx152_4); (have HR152_1 := qM hi152_1); (have HC152_1 := qM hl152_1); clear hi152_1 hl152_1; (have HR152_2 := qM hi152_2); (have HC152_2 := qM hl152_2); clear hi152_2 hl152_2; (replace p152 := eq_true p152); (replace q152 := eq_true q152); (have p153 : 0 ≤ (x6_1 : Int) := qo (by first | (with_reducible assumption) | assumption)); (have q153 : x6_1 < (l0_3.length : Int) := qo (by first | (with_reducible assumption) | assumption)); (obtain ⟨ad153, A153_1, c153_1, A153_2, c153_2, e153, hx153_0, hx153_1, hx153_2, hx153_3, hx153_4, hl153_1, hi153_1, hl153_2, hi153_2⟩ := at_T43 HR0_3.out x6_1 p153 q153); (obtain rfl : ad152 = ad153 := (by injection e153)); (replace hx153_0 := (HB.out.cell (qB w _ hx153_0)).trans hx153_0); (replace hx153_1 := (HB.out.cell (qB w _ hx153_1)).trans hx153_1); (replace hx153_2 := (HB.out.cell (qB w _ hx153_2)).trans hx153_2); (replace hx153_3 := (HB.out.cell (qB w _ hx153_3)).trans hx153_3); (replace hx153_4 := (HB.out.cell (qB w _ hx153_4)).trans hx153_4); (have HR153_1 := qM hi153_1); (have HC153_1 := qM hl153_1); clear hi153_1 hl153_1; (have HR153_2 := qM hi153_2); (have HC153_2 := qM hl153_2); clear hi153_2 hl153_2; (replace p153 := eq_true p153); (replace q153 := eq_true q153); (have ea_ := Option.some.inj (hx152_1.symm.trans hx153_1)); (injection ea_ with ea_ en_ ec_); subst ea_; subst ec_; clear en_; (have ea_ := Option.some.inj (hx152_2.symm.trans hx153_2)); (injection ea_ with ea_ en_ ec_); subst ea_; subst ec_; clear en_; go_wp2; (repeat (go_quiet (fail); try go_wp2)); (go_roundg k1)
       case measure => have := HK1.out; omega
       case rel => exact ⟨(wrap64 (x5_1 + (wrap64 ((((rd_T43 l0_3 x6_1).f1).length : Int) + (((rd_T43 l0_3 x6_1).f2).length : Int))))), (wrap64 (x6_1 + 1)), (by first | rfl | (simp; done) | (simp [*]; done)), (by first | rfl | (simp; done) | (simp [*]; done)), H', ⟨by have := HK1.out; omega⟩, ⟨by (with_reducible repeat (first | refine qn ?_ _ | refine qd ?_ | refine qa ?_ _)); exact BK151.out⟩, ⟨by repeat (first | (with_reducible first | exact HB.out | apply qA | apply qN | apply qD | refine qS ?_ GE151.out) | exact HB.out)⟩⟩
      ·rw [if_neg c7] at H
       exact absurd H (by simp)
     ·rw [if_neg c6] at H
      (have c6b0 : decide (x6_1 ≤ a1) = false := decide_eq_false c6); clear c6; (have H' := qM H); clear H; (obtain ⟨hcz9_0, hcz9_1, hcz9_2, hcz9_3, hcz9_4, hfz9_0, hfz9_1, hfz9_2, hfz9_3, hfz9_4⟩ := bx5 BK151.out); go_wp2; (repeat (go_quiet (fail); try go_wp2)); go_meet
      case rel => exact ⟨_, (x5_1), (by first | rfl | (simp; done) | (simp [*]; done)), H', ⟨by have := HK1.out; first | omega | exact Nat.le_refl _⟩, ⟨by (with_reducible repeat (first | refine qn ?_ _ | refine qd ?_ | refine qa ?_ _)); exact BK151.out⟩, ⟨by repeat (first | (with_reducible first | exact HB.out | apply qA | apply qN | apply qD | refine qS ?_ GE151.out) | exact HB.out)⟩⟩
    ·rw [if_neg c5] at H
     (have c5b0 : decide (x6_1 < (l0_3.length : Int)) = false := decide_eq_false c5); clear c5; ((first | rw [c5b0] | (simp only [i64_w, i32_w]; rw [c5b0]) | skip)); (have H' := qM H); clear H; (obtain ⟨hcz10_0, hcz10_1, hcz10_2, hcz10_3, hcz10_4, hfz10_0, hfz10_1, hfz10_2, hfz10_3, hfz10_4⟩ := bx5 BK151.out); go_wp2; (repeat (go_quiet (fail); try go_wp2)); go_meet
     case rel => exact ⟨_, (x5_1), (by first | rfl | (simp; done) | (simp [*]; done)), H', ⟨by have := HK1.out; first | omega | exact Nat.le_refl _⟩, ⟨by (with_reducible repeat (first | refine qn ?_ _ | refine qd ?_ | refine qa ?_ _)); exact BK151.out⟩, ⟨by repeat (first | (with_reducible first | exact HB.out | apply qA | apply qN | apply qD | refine qS ?_ GE151.out) | exact HB.out)⟩⟩
 case rest =>
  clear HC3; (try clear c1); (try clear p1); (try clear q1); (try clear hx1); (try clear p2); (try clear c5); (try clear c5b0); (try clear c6); (try clear c6b0); (try clear p6); (try clear c7); (try clear c7b0); (try clear hcz10_0 hcz10_1 hcz10_2 hcz10_3 hcz10_4); (try clear hcz8_0 hcz8_1 hcz8_2 hcz8_3 hcz8_4); (try clear hcz9_0 hcz9_1 hcz9_2 hcz9_3 hcz9_4); (try clear hfz10_0 hfz10_1 hfz10_2 hfz10_3 hfz10_4); (try clear hfz8_0 hfz8_1 hfz8_2 hfz8_3 hfz8_4); (try clear hfz9_0 hfz9_1 hfz9_2 hfz9_3 hfz9_4); (try clear hx152_0 hx152_1 hx152_2 hx152_3 hx152_4); (try clear hx153_0 hx153_1 hx153_2 hx153_3 hx153_4); (try clear p152); (try clear p153); (try clear p2); (try clear q152); (try clear q153); (obtain ⟨kq, x5_2, rfl, HA, HJ2, BK151, HB⟩ := hcut)
  cases kq with
  | zero => exact absurd HA.out (by simp [arboristref15_Few.j1])
  | succ kj2 =>
   (have H := HA.out); clear HA; (simp only [arboristref15_Few.j1] at H); (have H' := qM H); clear H; go_wp2; (repeat (go_quiet (fail); try go_wp2)); (go_loopg [5, 7] kj2 (fun kq v5 v7 w' => ∃ (x5_2 : Int) (x7_2 : Int), v5 = .int .i64 x5_2 ∧ v7 = .int .i64 x7_2 ∧ Aside0 (arboristref15_Few.l1 kq a1 x5_2 x7_2 l0_0 l0_1 l0_2 l0_3 l0_4 = some r) ∧ Aside0 (kq ≤ kj2) ∧ Aside0 (w'.heap[gb151]? = some (.cells #[(.slice A0_0 l0_0.length c0_0), (.slice A0_1 l0_1.length c0_1), (.slice A0_2 l0_2.length c0_2), (.slice A0_3 l0_3.length c0_3), (.slice A0_4 l0_4.length c0_4)] 27 (0, 0))) ∧ Aside0 (Below w.heap.size w w')))
   case atStart => exact ⟨(x5_2), (0), (by first | rfl | (simp; done) | (simp [*]; done)), (by first | rfl | (simp; done) | (simp [*]; done)), H', ⟨Nat.le_refl _⟩, ⟨by (with_reducible repeat (first | refine qn ?_ _ | refine qd ?_ | refine qa ?_ _)); exact BK151.out⟩, ⟨by repeat (first | (with_reducible first | exact HB.out | apply qA | apply qN | apply qD | refine qS ?_ GE151.out) | exact HB.out)⟩⟩
   case round =>
    (clear H'); (try clear c1); (try clear p1); (try clear q1); (try clear hx1); (try clear p2); (try clear c5); (try clear c5b0); (try clear c6); (try clear c6b0); (try clear p6); (try clear c7); (try clear c7b0); (try clear hcz10_0 hcz10_1 hcz10_2 hcz10_3 hcz10_4); (try clear hcz8_0 hcz8_1 hcz8_2 hcz8_3 hcz8_4); (try clear hcz9_0 hcz9_1 hcz9_2 hcz9_3 hcz9_4); (try clear hfz10_0 hfz10_1 hfz10_2 hfz10_3 hfz10_4); (try clear hfz8_0 hfz8_1 hfz8_2 hfz8_3 hfz8_4); (try clear hfz9_0 hfz9_1 hfz9_2 hfz9_3 hfz9_4); (try clear hx152_0 hx152_1 hx152_2 hx152_3 hx152_4); (try clear hx153_0 hx153_1 hx153_2 hx153_3 hx153_4); (try clear p1); (try clear p152); (try clear p153); (try clear p2); (try clear p6); (try clear q1); (try clear q152); (try clear q153); (obtain ⟨x5_2, x7_2, rfl, rfl, HA, HK2, BK151, HB⟩ := hrel)
    cases gk with
    | zero => exact absurd HA.out (by simp [arboristref15_Few.l1])
    | succ k2 =>
     (have H := HA.out); clear HA; (simp only [arboristref15_Few.l1] at H); (by_cases c11 : x7_2 < (l0_4.length : Int))
     ·rw [if_pos c11] at H
      (have c11b0 : decide (x7_2 < (l0_4.length : Int)) = true := decide_eq_true c11); clear c11; (by_cases c12 : x7_2 < 50)
      ·rw [if_pos c12] at H
       (have c12b0 : decide (x7_2 < 50) = true := decide_eq_true c12); clear c12; (by_cases c13 : 0 ≤ x7_2)
       ·rw [if_pos c13] at H
        (have c13b0 : decide (0 ≤ x7_2) = true := decide_eq_true c13); clear c13; (have H' := qM H); clear H; (obtain ⟨hcz14_0, hcz14_1, hcz14_2, hcz14_3, hcz14_4, hfz14_0, hfz14_1, hfz14_2, hfz14_3, hfz14_4⟩ := bx5 BK151.out); (have p154 : 0 ≤ (x7_2 : Int) := qo (by first | (with_reducible assumption) | assumption)); (have q154 : x7_2 < (l0_4.length : Int) := qo (by first | (with_reducible assumption) | assumption)); (obtain ⟨ad154, A154_1, c154_1, e154, hx154_0, hx154_1, hl154_1, hi154_1⟩ := at_T46 HR0_4.out x7_2 p154 q154)
        cases e154
        (replace hx154_0 := (HB.out.cell (qB w _ hx154_0)).trans hx154_0); (replace hx154_1 := (HB.out.cell (qB w _ hx154_1)).trans hx154_1); (have HR154_1 := qM hi154_1); (have HC154_1 := qM hl154_1); clear hi154_1 hl154_1; (replace p154 := eq_true p154); (replace q154 := eq_true q154); go_wp2; (repeat (go_quiet (fail); try go_wp2)); (go_roundg k2)
        case measure => have := HJ2.out; have := HK2.out; omega
        case rel => exact ⟨(wrap64 (x5_2 + (((rd_T46 l0_4 x7_2).f1).length : Int))), (wrap64 (x7_2 + 1)), (by first | rfl | (simp; done) | (simp [*]; done)), (by first | rfl | (simp; done) | (simp [*]; done)), H', ⟨by have := HJ2.out; have := HK2.out; omega⟩, ⟨by (with_reducible repeat (first | refine qn ?_ _ | refine qd ?_ | refine qa ?_ _)); exact BK151.out⟩, ⟨by repeat (first | (with_reducible first | exact HB.out | apply qA | apply qN | apply qD | refine qS ?_ GE151.out) | exact HB.out)⟩⟩
       ·rw [if_neg c13] at H
        exact absurd H (by simp)
      ·rw [if_neg c12] at H
       (have c12b0 : decide (x7_2 < 50) = false := decide_eq_false c12); clear c12; (by_cases c15 : (l0_3.length : Int) ≤ a1)
       ·rw [if_pos c15] at H
        (have c15b0 : decide ((l0_3.length : Int) ≤ a1) = true := decide_eq_true c15); clear c15; (by_cases c16 : (l0_0.length : Int) ≤ 60)
        ·rw [if_pos c16] at H
         (have c16b0 : decide ((l0_0.length : Int) ≤ 60) = true := decide_eq_true c16); (have c16b1 : decide (l0_0.length ≤ 60) = true := decide_eq_true (by omega)); clear c16; (by_cases c17 : (l0_1.length : Int) ≤ 60)
         ·rw [if_pos c17] at H
          (have c17b0 : decide ((l0_1.length : Int) ≤ 60) = true := decide_eq_true c17); (have c17b1 : decide (l0_1.length ≤ 60) = true := decide_eq_true (by omega)); clear c17; (by_cases c18 : (l0_2.length : Int) ≤ 60)
          ·rw [if_pos c18] at H
           (have c18b0 : decide ((l0_2.length : Int) ≤ 60) = true := decide_eq_true c18); (have c18b1 : decide (l0_2.length ≤ 60) = true := decide_eq_true (by omega)); clear c18; (by_cases c19 : (l0_4.length : Int) ≤ 40)
           ·rw [if_pos c19] at H
            (have c19b0 : decide ((l0_4.length : Int) ≤ 40) = true := decide_eq_true c19); (have c19b1 : decide (l0_4.length ≤ 40) = true := decide_eq_true (by omega)); clear c19; (obtain rfl := Option.some.inj H); (obtain ⟨hcz20_0, hcz20_1, hcz20_2, hcz20_3, hcz20_4, hfz20_0, hfz20_1, hfz20_2, hfz20_3, hfz20_4⟩ := bx5 BK151.out); go_wp2; (repeat (go_quiet (fail); try go_wp2)); (go_ret); (exact ⟨by first | rfl | (simp [errW_none, errW_some] <;> rfl) | (simp [*, errW_none, errW_some] <;> rfl), by repeat (first | (with_reducible first | exact HB.out | apply qA | apply qN | apply qD | refine qS ?_ GE151.out) | exact HB.out)⟩)
           ·rw [if_neg c19] at H
            (have c19b0 : decide ((l0_4.length : Int) ≤ 40) = false := decide_eq_false c19); (have c19b1 : decide (l0_4.length ≤ 40) = false := decide_eq_false (by omega)); clear c19; (obtain rfl := Option.some.inj H); (obtain ⟨hcz21_0, hcz21_1, hcz21_2, hcz21_3, hcz21_4, hfz21_0, hfz21_1, hfz21_2, hfz21_3, hfz21_4⟩ := bx5 BK151.out); go_wp2; (repeat (go_quiet (fail); try go_wp2)); (go_ret); (exact ⟨by first | rfl | (simp [errW_none, errW_some] <;> rfl) | (simp [*, errW_none, errW_some] <;> rfl), by repeat (first | (with_reducible first | exact HB.out | apply qA | apply qN | apply qD | refine qS ?_ GE151.out) | exact HB.out)⟩)
          ·rw [if_neg c18] at H
           (have c18b0 : decide ((l0_2.length : Int) ≤ 60) = false := decide_eq_false c18); (have c18b1 : decide (l0_2.length ≤ 60) = false := decide_eq_false (by omega)); clear c18; (obtain rfl := Option.some.inj H); (obtain ⟨hcz22_0, hcz22_1, hcz22_2, hcz22_3, hcz22_4, hfz22_0, hfz22_1, hfz22_2, hfz22_3, hfz22_4⟩ := bx5 BK151.out); go_wp2; (repeat (go_quiet (fail); try go_wp2)); (go_ret); (exact ⟨by first | rfl | (simp [errW_none, errW_some] <;> rfl) | (simp [*, errW_none, errW_some] <;> rfl), by repeat (first | (with_reducible first | exact HB.out | apply qA | apply qN | apply qD | refine qS ?_ GE151.out) | exact HB.out)⟩)
         ·rw [if_neg c17] at H
          (have c17b0 : decide ((l0_1.length : Int) ≤ 60) = false := decide_eq_false c17); (have c17b1 : decide (l0_1.length ≤ 60) = false := decide_eq_false (by omega)); clear c17; (obtain rfl := Option.some.inj H); (obtain ⟨hcz23_0, hcz23_1, hcz23_2, hcz23_3, hcz23_4, hfz23_0, hfz23_1, hfz23_2, hfz23_3, hfz23_4⟩ := bx5 BK151.out); go_wp2; (repeat (go_quiet (fail); try go_wp2)); (go_ret); (exact ⟨by first | rfl | (simp [errW_none, errW_some] <;> rfl) | (simp [*, errW_none, errW_some] <;> rfl), by repeat (first | (with_reducible first | exact HB.out | apply qA | apply qN | apply qD | refine qS ?_ GE151.out) | exact HB.out)⟩)
        ·rw [if_neg c16] at H
         (have c16b0 : decide ((l0_0.length : Int) ≤ 60) = false := decide_eq_false c16); (have c16b1 : decide (l0_0.length ≤ 60) = false := decide_eq_false (by omega)); clear c16; (obtain rfl := Option.some.inj H); (obtain ⟨hcz24_0, hcz24_1, hcz24_2, hcz24_3, hcz24_4, hfz24_0, hfz24_1, hfz24_2, hfz24_3, hfz24_4⟩ := bx5 BK151.out); go_wp2; (repeat (go_quiet (fail); try go_wp2)); (go_ret); (exact ⟨by first | rfl | (simp [errW_none, errW_some] <;> rfl) | (simp [*, errW_none, errW_some] <;> rfl), by repeat (first | (with_reducible first | exact HB.out | apply qA | apply qN | apply qD | refine qS ?_ GE151.out) | exact HB.out)⟩)
       ·rw [if_neg c15] at H
        (have c15b0 : decide ((l0_3.length : Int) ≤ a1) = false := decide_eq_false c15); clear c15; (obtain rfl := Option.some.inj H); (obtain ⟨hcz25_0, hcz25_1, hcz25_2, hcz25_3, hcz25_4, hfz25_0, hfz25_1, hfz25_2, hfz25_3, hfz25_4⟩ := bx5 BK151.out); go_wp2; (repeat (go_quiet (fail); try go_wp2)); (go_ret); (exact ⟨by first | rfl | (simp [errW_none, errW_some] <;> rfl) | (simp [*, errW_none, errW_some] <;> rfl), by repeat (first | (with_reducible first | exact HB.out | apply qA | apply qN | apply qD | refine qS ?_ GE151.out) | exact HB.out)⟩)
     ·rw [if_neg c11] at H
      (have c11b0 : decide (x7_2 < (l0_4.length : Int)) = false := decide_eq_false c11); clear c11; (by_cases c26 : (l0_3.length : Int) ≤ a1)
      ·rw [if_pos c26] at H
       (have c26b0 : decide ((l0_3.length : Int) ≤ a1) = true := decide_eq_true c26); clear c26; (by_cases c27 : (l0_0.length : Int) ≤ 60)
       ·rw [if_pos c27] at H
        (have c27b0 : decide ((l0_0.length : Int) ≤ 60) = true := decide_eq_true c27); (have c27b1 : decide (l0_0.length ≤ 60) = true := decide_eq_true (by omega)); clear c27; (by_cases c28 : (l0_1.length : Int) ≤ 60)
        ·rw [if_pos c28] at H
         (have c28b0 : decide ((l0_1.length : Int) ≤ 60) = true := decide_eq_true c28); (have c28b1 : decide (l0_1.length ≤ 60) = true := decide_eq_true (by omega)); clear c28; (by_cases c29 : (l0_2.length : Int) ≤ 60)
         ·rw [if_pos c29] at H
          (have c29b0 : decide ((l0_2.length : Int) ≤ 60) = true := decide_eq_true c29); (have c29b1 : decide (l0_2.length ≤ 60) = true := decide_eq_true (by omega)); clear c29; (by_cases c30 : (l0_4.length : Int) ≤ 40)
          ·rw [if_pos c30] at H
           (have c30b0 : decide ((l0_4.length : Int) ≤ 40) = true := decide_eq_true c30); (have c30b1 : decide (l0_4.length ≤ 40) = true := decide_eq_true (by omega)); clear c30; (obtain rfl := Option.some.inj H); (obtain ⟨hcz31_0, hcz31_1, hcz31_2, hcz31_3, hcz31_4, hfz31_0, hfz31_1, hfz31_2, hfz31_3, hfz31_4⟩ := bx5 BK151.out); go_wp2; (repeat (go_quiet (fail); try go_wp2)); (go_ret); (exact ⟨by first | rfl | (simp [errW_none, errW_some] <;> rfl) | (simp [*, errW_none, errW_some] <;> rfl), by repeat (first | (with_reducible first | exact HB.out | apply qA | apply qN | apply qD | refine qS ?_ GE151.out) | exact HB.out)⟩)
          ·rw [if_neg c30] at H
           (have c30b0 : decide ((l0_4.length : Int) ≤ 40) = false := decide_eq_false c30); (have c30b1 : decide (l0_4.length ≤ 40) = false := decide_eq_false (by omega)); clear c30; (obtain rfl := Option.some.inj H); (obtain ⟨hcz32_0, hcz32_1, hcz32_2, hcz32_3, hcz32_4, hfz32_0, hfz32_1, hfz32_2, hfz32_3, hfz32_4⟩ := bx5 BK151.out); go_wp2; (repeat (go_quiet (fail); try go_wp2)); (go_ret); (exact ⟨by first | rfl | (simp [errW_none, errW_some] <;> rfl) | (simp [*, errW_none, errW_some] <;> rfl), by repeat (first | (with_reducible first | exact HB.out | apply qA | apply qN | apply qD | refine qS ?_ GE151.out) | exact HB.out)⟩)
         ·rw [if_neg c29] at H
          (have c29b0 : decide ((l0_2.length : Int) ≤ 60) = false := decide_eq_false c29); (have c29b1 : decide (l0_2.length ≤ 60) = false := decide_eq_false (by omega)); clear c29; (obtain rfl := Option.some.inj H); (obtain ⟨hcz33_0, hcz33_1, hcz33_2, hcz33_3, hcz33_4, hfz33_0, hfz33_1, hfz33_2, hfz33_3, hfz33_4⟩ := bx5 BK151.out); go_wp2; (repeat (go_quiet (fail); try go_wp2)); (go_ret); (exact ⟨by first | rfl | (simp [errW_none, errW_some] <;> rfl) | (simp [*, errW_none, errW_some] <;> rfl), by repeat (first | (with_reducible first | exact HB.out | apply qA | apply qN | apply qD | refine qS ?_ GE151.out) | exact HB.out)⟩)
        ·rw [if_neg c28] at H
         (have c28b0 : decide ((l0_1.length : Int) ≤ 60) = false := decide_eq_false c28); (have c28b1 : decide (l0_1.length ≤ 60) = false := decide_eq_false (by omega)); clear c28; (obtain rfl := Option.some.inj H); (obtain ⟨hcz34_0, hcz34_1, hcz34_2, hcz34_3, hcz34_4, hfz34_0, hfz34_1, hfz34_2, hfz34_3, hfz34_4⟩ := bx5 BK151.out); go_wp2; (repeat (go_quiet (fail); try go_wp2)); (go_ret); (exact ⟨by first | rfl | (simp [errW_none, errW_some] <;> rfl) | (simp [*, errW_none, errW_some] <;> rfl), by repeat (first | (with_reducible first | exact HB.out | apply qA | apply qN | apply qD | refine qS ?_ GE151.out) | exact HB.out)⟩)
       ·rw [if_neg c27] at H
        (have c27b0 : decide ((l0_0.length : Int) ≤ 60) = false := decide_eq_false c27); (have c27b1 : decide (l0_0.length ≤ 60) = false := decide_eq_false (by omega)); clear c27; (obtain rfl := Option.some.inj H); (obtain ⟨hcz35_0, hcz35_1, hcz35_2, hcz35_3, hcz35_4, hfz35_0, hfz35_1, hfz35_2, hfz35_3, hfz35_4⟩ := bx5 BK151.out); go_wp2; (repeat (go_quiet (fail); try go_wp2)); (go_ret); (exact ⟨by first | rfl | (simp [errW_none, errW_some] <;> rfl) | (simp [*, errW_none, errW_some] <;> rfl), by repeat (first | (with_reducible first | exact HB.out | apply qA | apply qN | apply qD | refine qS ?_ GE151.out) | exact HB.out)⟩)
      ·rw [if_neg c26] at H
       (have c26b0 : decide ((l0_3.length : Int) ≤ a1) = false := decide_eq_false c26); clear c26; (obtain rfl := Option.some.inj H); (obtain ⟨hcz36_0, hcz36_1, hcz36_2, hcz36_3, hcz36_4, hfz36_0, hfz36_1, hfz36_2, hfz36_3, hfz36_4⟩ := bx5 BK151.out); go_wp2; (repeat (go_quiet (fail); try go_wp2)); (go_ret); (exact ⟨by first | rfl | (simp [errW_none, errW_some] <;> rfl) | (simp [*, errW_none, errW_some] <;> rfl), by repeat (first | (with_reducible first | exact HB.out | apply qA | apply qN | apply qD | refine qS ?_ GE151.out) | exact HB.out)⟩)


def arboristref15_Is.f (l0_0 : List ByteArray) (l0_1 : List ByteArray) (l0_2 : List Int) (l0_3 : List (S43)) (l0_4 : List (S46)) (a1 : Int) : Option (Bool) := if a1 ≥ 0 then (if a1 < (l0_0.length : Int) then (some true) else (if a1 < 0 then (some (decide (a1 ≥ (wrap64 (-(l0_1.length : Int)))))) else (some false))) else (if a1 < 0 then (some (decide (a1 ≥ (wrap64 (-(l0_1.length : Int)))))) else (some false))
set_option maxHeartbeats 8000000 in
set_option maxRecDepth 100000 in
theorem arboristref15_Is.calls (A0_0 : Option Addr) (c0_0 : Nat) (l0_0 : List ByteArray) (A0_1 : Option Addr) (c0_1 : Nat) (l0_1 : List ByteArray) (A0_2 : Option Addr) (c0_2 : Nat) (l0_2 : List Int) (A0_3 : Option Addr) (c0_3 : Nat) (l0_3 : List (S43)) (A0_4 : Option Addr) (c0_4 : Nat) (l0_4 : List (S46)) (a1 : Int) (r : Bool) (w : World) (hr0_0 : Kd.C Kd.string w A0_0 l0_0.length l0_0) (hc0_0 : l0_0.length ≤ c0_0) (hr0_1 : Kd.C Kd.string w A0_1 l0_1.length l0_1) (hc0_1 : l0_1.length ≤ c0_1) (hr0_2 : Kd.C (Kd.int .i64) w A0_2 l0_2.length l0_2) (hc0_2 : l0_2.length ≤ c0_2) (hr0_3 : Kd.C k43 w A0_3 l0_3.length l0_3) (hc0_3 : l0_3.length ≤ c0_3) (hr0_4 : Kd.C k46 w A0_4 l0_4.length l0_4) (hc0_4 : l0_4.length ≤ c0_4) (h : arboristref15_Is.f l0_0 l0_1 l0_2 l0_3 l0_4 a1 = some r) :
  Calls Tryd.prog 36 #[.agg #[.slice A0_0 l0_0.length c0_0, .slice A0_1 l0_1.length c0_1, .slice A0_2 l0_2.length c0_2, .slice A0_3 l0_3.length c0_3, .slice A0_4 l0_4.length c0_4], .int .i64 a1] w fun e w' => e = .returned (.bool r) ∧ Below w.heap.size w w' := by
 (have hu27 := Tryd.underlying27); (have HR0_0 := qM hr0_0); (have HC0_0 := qM hc0_0); clear hr0_0 hc0_0; (have HR0_1 := qM hr0_1); (have HC0_1 := qM hc0_1); clear hr0_1 hc0_1; (have HR0_2 := qM hr0_2); (have HC0_2 := qM hc0_2); clear hr0_2 hc0_2; (have HR0_3 := qM hr0_3); (have HC0_3 := qM hc0_3); clear hr0_3 hc0_3; (have HR0_4 := qM hr0_4); (have HC0_4 := qM hc0_4); clear hr0_4 hc0_4; (have HB := qM (Below.refl w.heap.size w)); (have H : (if a1 ≥ 0 then (if a1 < (l0_0.length : Int) then (some true) else (if a1 < 0 then (some (decide (a1 ≥ (wrap64 (-(l0_1.length : Int)))))) else (some false))) else (if a1 < 0 then (some (decide (a1 ≥ (wrap64 (-(l0_1.length : Int)))))) else (some false))) = some r := h); clear h; (by_cases c3 : a1 ≥ 0)
 ·rw [if_pos c3] at H
  (have c3b0 : decide (0 ≤ a1) = true := decide_eq_true c3); clear c3; (by_cases c4 : a1 < (l0_0.length : Int))
  ·rw [if_pos c4] at H
   (have c4b0 : decide (a1 < (l0_0.length : Int)) = true := decide_eq_true c4); clear c4; (obtain rfl := Option.some.inj H); (go_enter Tryd.func36, Tryd.ntmps36)
   go_wp2_with (first | ((with_reducible refine gate_dst (N := 2) rfl ?_); (try (refine gate_guard (by rfl) ?_; dsimp only)); refine box_event ?hg (N := 2) ?hd (cs := #[.slice A0_0 l0_0.length c0_0, .slice A0_1 l0_1.length c0_1, .slice A0_2 l0_2.length c0_2, .slice A0_3 l0_3.length c0_3, .slice A0_4 l0_4.length c0_4]) (t := 27) ?hr ?_; (case hd => rfl); (case hg => rfl); (case hr => first | (go_simp; done) | (go_simp; rfl)); intro gb254 hg w5 hbox hb; have n0_ := qM (qP (by repeat (first | (with_reducible first | exact HB.out | apply qA | apply qN | apply qD) | exact HB.out)) hb); have n1_ := qM (hbox); have n2_ := qM ((by rw [hg]; exact (qZ (by repeat (first | (with_reducible first | exact HB.out | apply qA | apply qN | apply qD) | exact HB.out))) : w.heap.size ≤ gb254)); have n3_ := qM ((by rw [hg]; exact (qZ (by repeat (first | (with_reducible first | exact HB.out | apply qA | apply qN | apply qD) | exact HB.out))) : w.heap.size ≤ gb254)); clear HB; have HB := n0_; have BK254 := n1_; have GW254 := n2_; have GE254 := n3_; clear n0_ n1_ n2_ n3_; clear hb hbox hg; obtain ⟨hcz6_0, hcz6_1, hcz6_2, hcz6_3, hcz6_4, hfz6_0, hfz6_1, hfz6_2, hfz6_3, hfz6_4⟩ := bx5 BK254.out))
   (go_ret); (exact ⟨by first | rfl | (simp [errW_none, errW_some] <;> rfl) | (simp [*, errW_none, errW_some] <;> rfl), by repeat (first | (with_reducible first | exact HB.out | apply qA | apply qN | apply qD | refine qS ?_ GE254.out) | exact HB.out)⟩)
  ·rw [if_neg c4] at H
   (have c4b0 : decide (a1 < (l0_0.length : Int)) = false := decide_eq_false c4); clear c4; (by_cases c7 : a1 < 0)
   ·rw [if_pos c7] at H
    (have c7b0 : decide (a1 < 0) = true := decide_eq_true c7); clear c7; (obtain rfl := Option.some.inj H); (go_enter Tryd.func36, Tryd.ntmps36)
    go_wp2_with (first | ((with_reducible refine gate_dst (N := 2) rfl ?_); (try (refine gate_guard (by rfl) ?_; dsimp only)); refine box_event ?hg (N := 2) ?hd (cs := #[.slice A0_0 l0_0.length c0_0, .slice A0_1 l0_1.length c0_1, .slice A0_2 l0_2.length c0_2, .slice A0_3 l0_3.length c0_3, .slice A0_4 l0_4.length c0_4]) (t := 27) ?hr ?_; (case hd => rfl); (case hg => rfl); (case hr => first | (go_simp; done) | (go_simp; rfl)); intro gb254 hg w8 hbox hb; have n0_ := qM (qP (by repeat (first | (with_reducible first | exact HB.out | apply qA | apply qN | apply qD) | exact HB.out)) hb); have n1_ := qM (hbox); have n2_ := qM ((by rw [hg]; exact (qZ (by repeat (first | (with_reducible first | exact HB.out | apply qA | apply qN | apply qD) | exact HB.out))) : w.heap.size ≤ gb254)); have n3_ := qM ((by rw [hg]; exact (qZ (by repeat (first | (with_reducible first | exact HB.out | apply qA | apply qN | apply qD) | exact HB.out))) : w.heap.size ≤ gb254)); clear HB; have HB := n0_; have BK254 := n1_; have GW254 := n2_; have GE254 := n3_; clear n0_ n1_ n2_ n3_; clear hb hbox hg; obtain ⟨hcz9_0, hcz9_1, hcz9_2, hcz9_3, hcz9_4, hfz9_0, hfz9_1, hfz9_2, hfz9_3, hfz9_4⟩ := bx5 BK254.out))
    (go_ret); (exact ⟨by first | rfl | (simp [errW_none, errW_some] <;> rfl) | (simp [*, errW_none, errW_some] <;> rfl), by repeat (first | (with_reducible first | exact HB.out | apply qA | apply qN | apply qD | refine qS ?_ GE254.out) | exact HB.out)⟩)
   ·rw [if_neg c7] at H
    (have c7b0 : decide (a1 < 0) = false := decide_eq_false c7); clear c7; (obtain rfl := Option.some.inj H); (go_enter Tryd.func36, Tryd.ntmps36)
    go_wp2_with (first | ((with_reducible refine gate_dst (N := 2) rfl ?_); (try (refine gate_guard (by rfl) ?_; dsimp only)); refine box_event ?hg (N := 2) ?hd (cs := #[.slice A0_0 l0_0.length c0_0, .slice A0_1 l0_1.length c0_1, .slice A0_2 l0_2.length c0_2, .slice A0_3 l0_3.length c0_3, .slice A0_4 l0_4.length c0_4]) (t := 27) ?hr ?_; (case hd => rfl); (case hg => rfl); (case hr => first | (go_simp; done) | (go_simp; rfl)); intro gb254 hg w10 hbox hb; have n0_ := qM (qP (by repeat (first | (with_reducible first | exact HB.out | apply qA | apply qN | apply qD) | exact HB.out)) hb); have n1_ := qM (hbox); have n2_ := qM ((by rw [hg]; exact (qZ (by repeat (first | (with_reducible first | exact HB.out | apply qA | apply qN | apply qD) | exact HB.out))) : w.heap.size ≤ gb254)); have n3_ := qM ((by rw [hg]; exact (qZ (by repeat (first | (with_reducible first | exact HB.out | apply qA | apply qN | apply qD) | exact HB.out))) : w.heap.size ≤ gb254)); clear HB; have HB := n0_; have BK254 := n1_; have GW254 := n2_; have GE254 := n3_; clear n0_ n1_ n2_ n3_; clear hb hbox hg; obtain ⟨hcz11_0, hcz11_1, hcz11_2, hcz11_3, hcz11_4, hfz11_0, hfz11_1, hfz11_2, hfz11_3, hfz11_4⟩ := bx5 BK254.out))
    (go_ret); (exact ⟨by first | rfl | (simp [errW_none, errW_some] <;> rfl) | (simp [*, errW_none, errW_some] <;> rfl), by repeat (first | (with_reducible first | exact HB.out | apply qA | apply qN | apply qD | refine qS ?_ GE254.out) | exact HB.out)⟩)
 ·rw [if_neg c3] at H
  (have c3b0 : decide (0 ≤ a1) = false := decide_eq_false c3); clear c3; (by_cases c12 : a1 < 0)
  ·rw [if_pos c12] at H
   (have c12b0 : decide (a1 < 0) = true := decide_eq_true c12); clear c12; (obtain rfl := Option.some.inj H); (go_enter Tryd.func36, Tryd.ntmps36)
   go_wp2_with (first | ((with_reducible refine gate_dst (N := 2) rfl ?_); (try (refine gate_guard (by rfl) ?_; dsimp only)); refine box_event ?hg (N := 2) ?hd (cs := #[.slice A0_0 l0_0.length c0_0, .slice A0_1 l0_1.length c0_1, .slice A0_2 l0_2.length c0_2, .slice A0_3 l0_3.length c0_3, .slice A0_4 l0_4.length c0_4]) (t := 27) ?hr ?_; (case hd => rfl); (case hg => rfl); (case hr => first | (go_simp; done) | (go_simp; rfl)); intro gb254 hg w13 hbox hb; have n0_ := qM (qP (by repeat (first | (with_reducible first | exact HB.out | apply qA | apply qN | apply qD) | exact HB.out)) hb); have n1_ := qM (hbox); have n2_ := qM ((by rw [hg]; exact (qZ (by repeat (first | (with_reducible first | exact HB.out | apply qA | apply qN | apply qD) | exact HB.out))) : w.heap.size ≤ gb254)); have n3_ := qM ((by rw [hg]; exact (qZ (by repeat (first | (with_reducible first | exact HB.out | apply qA | apply qN | apply qD) | exact HB.out))) : w.heap.size ≤ gb254)); clear HB; have HB := n0_; have BK254 := n1_; have GW254 := n2_; have GE254 := n3_; clear n0_ n1_ n2_ n3_; clear hb hbox hg; obtain ⟨hcz14_0, hcz14_1, hcz14_2, hcz14_3, hcz14_4, hfz14_0, hfz14_1, hfz14_2, hfz14_3, hfz14_4⟩ := bx5 BK254.out))
   (go_ret); (exact ⟨by first | rfl | (simp [errW_none, errW_some] <;> rfl) | (simp [*, errW_none, errW_some] <;> rfl), by repeat (first | (with_reducible first | exact HB.out | apply qA | apply qN | apply qD | refine qS ?_ GE254.out) | exact HB.out)⟩)
  ·rw [if_neg c12] at H
   (have c12b0 : decide (a1 < 0) = false := decide_eq_false c12); clear c12; (obtain rfl := Option.some.inj H); (go_enter Tryd.func36, Tryd.ntmps36)
   go_wp2_with (first | ((with_reducible refine gate_dst (N := 2) rfl ?_); (try (refine gate_guard (by rfl) ?_; dsimp only)); refine box_event ?hg (N := 2) ?hd (cs := #[.slice A0_0 l0_0.length c0_0, .slice A0_1 l0_1.length c0_1, .slice A0_2 l0_2.length c0_2, .slice A0_3 l0_3.length c0_3, .slice A0_4 l0_4.length c0_4]) (t := 27) ?hr ?_; (case hd => rfl); (case hg => rfl); (case hr => first | (go_simp; done) | (go_simp; rfl)); intro gb254 hg w15 hbox hb; have n0_ := qM (qP (by repeat (first | (with_reducible first | exact HB.out | apply qA | apply qN | apply qD) | exact HB.out)) hb); have n1_ := qM (hbox); have n2_ := qM ((by rw [hg]; exact (qZ (by repeat (first | (with_reducible first | exact HB.out | apply qA | apply qN | apply qD) | exact HB.out))) : w.heap.size ≤ gb254)); have n3_ := qM ((by rw [hg]; exact (qZ (by repeat (first | (with_reducible first | exact HB.out | apply qA | apply qN | apply qD) | exact HB.out))) : w.heap.size ≤ gb254)); clear HB; have HB := n0_; have BK254 := n1_; have GW254 := n2_; have GE254 := n3_; clear n0_ n1_ n2_ n3_; clear hb hbox hg))
   (go_ret); (exact ⟨by first | rfl | (simp [errW_none, errW_some] <;> rfl) | (simp [*, errW_none, errW_some] <;> rfl), by repeat (first | (with_reducible first | exact HB.out | apply qA | apply qN | apply qD | refine qS ?_ GE254.out) | exact HB.out)⟩)




def arboristref15_Sym.f (l0_0 : List ByteArray) (l0_1 : List ByteArray) (l0_2 : List Int) (l0_3 : List (S43)) (l0_4 : List (S46)) (a1 : Int) : Option (ByteArray) := (arboristref15_Is.f l0_0 l0_1 l0_2 l0_3 l0_4 a1).bind fun t292 => (if t292 = true then (if a1 ≥ 0 then (if 0 ≤ a1 then (if a1 < (l0_0.length : Int) then (some (rdOf ByteArray.empty l0_0 a1)) else (none)) else (none)) else (if 0 ≤ (wrap64 ((-1) - a1)) then (if (wrap64 ((-1) - a1)) < (l0_1.length : Int) then (some (rdOf ByteArray.empty l0_1 (wrap64 ((-1) - a1)))) else (none)) else (none))) else (some (⟨#[63]⟩ : ByteArray)))
set_option maxHeartbeats 8000000 in
set_option maxRecDepth 100000 in
theorem arboristref15_Sym.calls (A0_0 : Option Addr) (c0_0 : Nat) (l0_0 : List ByteArray) (A0_1 : Option Addr) (c0_1 : Nat) (l0_1 : List ByteArray) (A0_2 : Option Addr) (c0_2 : Nat) (l0_2 : List Int) (A0_3 : Option Addr) (c0_3 : Nat) (l0_3 : List (S43)) (A0_4 : Option Addr) (c0_4 : Nat) (l0_4 : List (S46)) (a1 : Int) (r : ByteArray) (w : World) (hr0_0 : Kd.C Kd.string w A0_0 l0_0.length l0_0) (hc0_0 : l0_0.length ≤ c0_0) (hr0_1 : Kd.C Kd.string w A0_1 l0_1.length l0_1) (hc0_1 : l0_1.length ≤ c0_1) (hr0_2 : Kd.C (Kd.int .i64) w A0_2 l0_2.length l0_2) (hc0_2 : l0_2.length ≤ c0_2) (hr0_3 : Kd.C k43 w A0_3 l0_3.length l0_3) (hc0_3 : l0_3.length ≤ c0_3) (hr0_4 : Kd.C k46 w A0_4 l0_4.length l0_4) (hc0_4 : l0_4.length ≤ c0_4) (h : arboristref15_Sym.f l0_0 l0_1 l0_2 l0_3 l0_4 a1 = some r) :
  Calls Tryd.prog 13 #[.agg #[.slice A0_0 l0_0.length c0_0, .slice A0_1 l0_1.length c0_1, .slice A0_2 l0_2.length c0_2, .slice A0_3 l0_3.length c0_3, .slice A0_4 l0_4.length c0_4], .int .i64 a1] w fun e w' => e = .returned (.string r) ∧ Below w.heap.size w w' := by
 (have hu27 := Tryd.underlying27); (have HR0_0 := qM hr0_0); (have HC0_0 := qM hc0_0); clear hr0_0 hc0_0; (have HR0_1 := qM hr0_1); (have HC0_1 := qM hc0_1); clear hr0_1 hc0_1; (have HR0_2 := qM hr0_2); (have HC0_2 := qM hc0_2); clear hr0_2 hc0_2; (have HR0_3 := qM hr0_3); (have HC0_3 := qM hc0_3); clear hr0_3 hc0_3; (have HR0_4 := qM hr0_4); (have HC0_4 := qM hc0_4); clear hr0_4 hc0_4; (have HB := qM (Below.refl w.heap.size w)); (have H : ((arboristref15_Is.f l0_0 l0_1 l0_2 l0_3 l0_4 a1).bind fun t292 => (if t292 = true then (if a1 ≥ 0 then (if 0 ≤ a1 then (if a1 < (l0_0.length : Int) then (some (rdOf ByteArray.empty l0_0 a1)) else (none)) else (none)) else (if 0 ≤ (wrap64 ((-1) - a1)) then (if (wrap64 ((-1) - a1)) < (l0_1.length : Int) then (some (rdOf ByteArray.empty l0_1 (wrap64 ((-1) - a1)))) else (none)) else (none))) else (some (⟨#[63]⟩ : ByteArray)))) = some r := h); clear h; (replace H := Option.bind_eq_some_iff.mp H); (obtain ⟨t292, A30, H⟩ := H); (replace H : (if t292 = true then (if a1 ≥ 0 then (if 0 ≤ a1 then (if a1 < (l0_0.length : Int) then (some (rdOf ByteArray.empty l0_0 a1)) else (none)) else (none)) else (if 0 ≤ (wrap64 ((-1) - a1)) then (if (wrap64 ((-1) - a1)) < (l0_1.length : Int) then (some (rdOf ByteArray.empty l0_1 (wrap64 ((-1) - a1)))) else (none)) else (none))) else (some (⟨#[63]⟩ : ByteArray))) = some r := H); (have A3 := qM A30); clear A30; (by_cases c4 : t292 = true)
 ·subst c4
  (have H1 : (if a1 ≥ 0 then (if 0 ≤ a1 then (if a1 < (l0_0.length : Int) then (some (rdOf ByteArray.empty l0_0 a1)) else (none)) else (none)) else (if 0 ≤ (wrap64 ((-1) - a1)) then (if (wrap64 ((-1) - a1)) < (l0_1.length : Int) then (some (rdOf ByteArray.empty l0_1 (wrap64 ((-1) - a1)))) else (none)) else (none))) = some r := by rw [if_pos rfl] at H; exact H); clear H; (have H := H1); clear H1; (by_cases c5 : a1 ≥ 0)
  ·rw [if_pos c5] at H
   (have c5b0 : decide (0 ≤ a1) = true := decide_eq_true c5); clear c5; (by_cases c6 : 0 ≤ a1)
   ·rw [if_pos c6] at H
    (have c6b0 : decide (0 ≤ a1) = true := decide_eq_true c6); clear c6; (by_cases c7 : a1 < (l0_0.length : Int))
    ·rw [if_pos c7] at H
     (have c7b0 : decide (a1 < (l0_0.length : Int)) = true := decide_eq_true c7); clear c7; (obtain rfl := Option.some.inj H); (go_enter Tryd.func13, Tryd.ntmps13)
     go_wp2_with (first | ((with_reducible refine gate_dst (N := 2) rfl ?_); refine box_event ?hg (N := 2) ?hd (cs := #[.slice A0_0 l0_0.length c0_0, .slice A0_1 l0_1.length c0_1, .slice A0_2 l0_2.length c0_2, .slice A0_3 l0_3.length c0_3, .slice A0_4 l0_4.length c0_4]) (t := 27) ?hr ?_; (case hd => rfl); (case hg => rfl); (case hr => first | (go_simp; done) | (go_simp; rfl)); intro gb291 hg w8 hbox hb; have n0_ := qM (qP (by repeat (first | (with_reducible first | exact HB.out | apply qA | apply qN | apply qD) | exact HB.out)) hb); have n1_ := qM (hbox); have n2_ := qM ((by rw [hg]; exact (qZ (by repeat (first | (with_reducible first | exact HB.out | apply qA | apply qN | apply qD) | exact HB.out))) : w.heap.size ≤ gb291)); have n3_ := qM ((by rw [hg]; exact (qZ (by repeat (first | (with_reducible first | exact HB.out | apply qA | apply qN | apply qD) | exact HB.out))) : w.heap.size ≤ gb291)); clear HB; have HB := n0_; have BK291 := n1_; have GW291 := n2_; have GE291 := n3_; clear n0_ n1_ n2_ n3_; clear hb hbox hg; obtain ⟨hcz9_0, hcz9_1, hcz9_2, hcz9_3, hcz9_4, hfz9_0, hfz9_1, hfz9_2, hfz9_3, hfz9_4⟩ := bx5 BK291.out) | ((with_reducible refine gate_callee (f := 36) rfl ?_); refine goesL_ (some 7) rfl rfl Tryd.func36 (by kernel_rfl) rfl #[.agg #[.slice A0_0 l0_0.length c0_0, .slice A0_1 l0_1.length c0_1, .slice A0_2 l0_2.length c0_2, .slice A0_3 l0_3.length c0_3, .slice A0_4 l0_4.length c0_4], .int .i64 a1] rfl (by (try simp only [List.map_toArray, List.map_cons, List.map_nil]); first | done | rfl | (simp only [List.length_drop, List.length_take]; rfl)) ?_; (with_reducible refine (arboristref15_Is.calls _ _ l0_0 _ _ l0_1 _ _ l0_2 _ _ l0_3 _ _ l0_4 a1 true _ ?side1 ?side2 ?side3 ?side4 ?side5 ?side6 ?side7 ?side8 ?side9 ?side10 A3.out).mono ?_); (case side1 => repeat (first | exact (Kd.C_below HR0_0.out HB.out) | (with_reducible refine Kd.C_alloc ?_ _) | (with_reducible refine Kd.C_drewN ?_ _) | (with_reducible refine Kd.C_drew ?_))); (case side2 => exact HC0_0.out); (case side3 => repeat (first | exact (Kd.C_below HR0_1.out HB.out) | (with_reducible refine Kd.C_alloc ?_ _) | (with_reducible refine Kd.C_drewN ?_ _) | (with_reducible refine Kd.C_drew ?_))); (case side4 => exact HC0_1.out); (case side5 => repeat (first | exact (Kd.C_below HR0_2.out HB.out) | (with_reducible refine Kd.C_alloc ?_ _) | (with_reducible refine Kd.C_drewN ?_ _) | (with_reducible refine Kd.C_drew ?_))); (case side6 => exact HC0_2.out); (case side7 => repeat (first | exact (Kd.C_below HR0_3.out HB.out) | (with_reducible refine Kd.C_alloc ?_ _) | (with_reducible refine Kd.C_drewN ?_ _) | (with_reducible refine Kd.C_drew ?_))); (case side8 => exact HC0_3.out); (case side9 => repeat (first | exact (Kd.C_below HR0_4.out HB.out) | (with_reducible refine Kd.C_alloc ?_ _) | (with_reducible refine Kd.C_drewN ?_ _) | (with_reducible refine Kd.C_drew ?_))); (case side10 => exact HC0_4.out); rintro e w10 ⟨rfl, hb⟩; refine ⟨_, rfl, ?_⟩; have n0_ := qM (qb (g := gb291) (o := .cells #[.slice A0_0 l0_0.length c0_0, .slice A0_1 l0_1.length c0_1, .slice A0_2 l0_2.length c0_2, .slice A0_3 l0_3.length c0_3, .slice A0_4 l0_4.length c0_4] 27 (0, 0)) (by (with_reducible repeat (first | refine qn ?_ _ | refine qd ?_ | refine qa ?_ _)); exact BK291.out) hb); have n1_ := qM (qP (by repeat (first | (with_reducible first | exact HB.out | apply qA | apply qN | apply qD | refine qS ?_ GE291.out) | exact HB.out)) hb); clear BK291; clear HB; have BK291 := n0_; have HB := n1_; clear n0_ n1_; (try clear hb); (try clear hb2); (try clear hk); (try clear hi); obtain ⟨hcz11_0, hcz11_1, hcz11_2, hcz11_3, hcz11_4, hfz11_0, hfz11_1, hfz11_2, hfz11_3, hfz11_4⟩ := bx5 BK291.out; have p293 : 0 ≤ (a1 : Int) := qo (by first | (with_reducible assumption) | assumption); have q293 : a1 < (l0_0.length : Int) := qo (by first | (with_reducible assumption) | assumption); obtain ⟨ad293, e293, hx293_0⟩ := Kd.at_string HR0_0.out a1 p293 q293; cases e293; replace hx293_0 := (HB.out.cell (qB w _ hx293_0)).trans hx293_0; replace p293 := eq_true p293; replace q293 := eq_true q293))
     (go_ret); (exact ⟨by first | rfl | (simp [errW_none, errW_some] <;> rfl) | (simp [*, errW_none, errW_some] <;> rfl), by repeat (first | (with_reducible first | exact HB.out | apply qA | apply qN | apply qD | refine qS ?_ GE291.out) | exact HB.out)⟩)
    ·rw [if_neg c7] at H
     exact absurd H (by simp)
   ·rw [if_neg c6] at H
    exact absurd H (by simp)
  ·rw [if_neg c5] at H
   (have c5b0 : decide (0 ≤ a1) = false := decide_eq_false c5); clear c5; (obtain ⟨ji12, hji12⟩ : ∃ j_ : Int, (wrap64 ((-1) - a1)) = j_ := ⟨_, rfl⟩); (replace H : (if 0 ≤ (ji12) then (if (ji12) < (l0_1.length : Int) then (some (rdOf ByteArray.empty l0_1 (ji12))) else (none)) else (none)) = some r := by first | (rw [hji12] at H; exact H) | (simp only [hji12] at H ⊢; exact H)); ((try rw [hji12] at A3)); (have hji12w : (IntKind.i64.wrap ((-1) - a1)) = ji12 := (i64_w _).trans hji12); (by_cases c13 : 0 ≤ (ji12))
   ·rw [if_pos c13] at H
    (have c13b0 : decide (0 ≤ (ji12)) = true := decide_eq_true c13); clear c13; (by_cases c14 : (ji12) < (l0_1.length : Int))
    ·rw [if_pos c14] at H
     (have c14b0 : decide ((ji12) < (l0_1.length : Int)) = true := decide_eq_true c14); clear c14; (obtain rfl := Option.some.inj H); (go_enter Tryd.func13, Tryd.ntmps13)
     go_wp2_with (first | ((with_reducible refine gate_dst (N := 2) rfl ?_); refine box_event ?hg (N := 2) ?hd (cs := #[.slice A0_0 l0_0.length c0_0, .slice A0_1 l0_1.length c0_1, .slice A0_2 l0_2.length c0_2, .slice A0_3 l0_3.length c0_3, .slice A0_4 l0_4.length c0_4]) (t := 27) ?hr ?_; (case hd => rfl); (case hg => rfl); (case hr => first | (go_simp; done) | (go_simp; rfl)); intro gb291 hg w15 hbox hb; have n0_ := qM (qP (by repeat (first | (with_reducible first | exact HB.out | apply qA | apply qN | apply qD) | exact HB.out)) hb); have n1_ := qM (hbox); have n2_ := qM ((by rw [hg]; exact (qZ (by repeat (first | (with_reducible first | exact HB.out | apply qA | apply qN | apply qD) | exact HB.out))) : w.heap.size ≤ gb291)); have n3_ := qM ((by rw [hg]; exact (qZ (by repeat (first | (with_reducible first | exact HB.out | apply qA | apply qN | apply qD) | exact HB.out))) : w.heap.size ≤ gb291)); clear HB; have HB := n0_; have BK291 := n1_; have GW291 := n2_; have GE291 := n3_; clear n0_ n1_ n2_ n3_; clear hb hbox hg; obtain ⟨hcz16_0, hcz16_1, hcz16_2, hcz16_3, hcz16_4, hfz16_0, hfz16_1, hfz16_2, hfz16_3, hfz16_4⟩ := bx5 BK291.out) | ((with_reducible refine gate_callee (f := 36) rfl ?_); refine goesL_ (some 7) rfl rfl Tryd.func36 (by kernel_rfl) rfl #[.agg #[.slice A0_0 l0_0.length c0_0, .slice A0_1 l0_1.length c0_1, .slice A0_2 l0_2.length c0_2, .slice A0_3 l0_3.length c0_3, .slice A0_4 l0_4.length c0_4], .int .i64 a1] rfl (by (try simp only [List.map_toArray, List.map_cons, List.map_nil]); first | done | rfl | (simp only [List.length_drop, List.length_take]; rfl)) ?_; (with_reducible refine (arboristref15_Is.calls _ _ l0_0 _ _ l0_1 _ _ l0_2 _ _ l0_3 _ _ l0_4 a1 true _ ?side1 ?side2 ?side3 ?side4 ?side5 ?side6 ?side7 ?side8 ?side9 ?side10 A3.out).mono ?_); (case side1 => repeat (first | exact (Kd.C_below HR0_0.out HB.out) | (with_reducible refine Kd.C_alloc ?_ _) | (with_reducible refine Kd.C_drewN ?_ _) | (with_reducible refine Kd.C_drew ?_))); (case side2 => exact HC0_0.out); (case side3 => repeat (first | exact (Kd.C_below HR0_1.out HB.out) | (with_reducible refine Kd.C_alloc ?_ _) | (with_reducible refine Kd.C_drewN ?_ _) | (with_reducible refine Kd.C_drew ?_))); (case side4 => exact HC0_1.out); (case side5 => repeat (first | exact (Kd.C_below HR0_2.out HB.out) | (with_reducible refine Kd.C_alloc ?_ _) | (with_reducible refine Kd.C_drewN ?_ _) | (with_reducible refine Kd.C_drew ?_))); (case side6 => exact HC0_2.out); (case side7 => repeat (first | exact (Kd.C_below HR0_3.out HB.out) | (with_reducible refine Kd.C_alloc ?_ _) | (with_reducible refine Kd.C_drewN ?_ _) | (with_reducible refine Kd.C_drew ?_))); (case side8 => exact HC0_3.out); (case side9 => repeat (first | exact (Kd.C_below HR0_4.out HB.out) | (with_reducible refine Kd.C_alloc ?_ _) | (with_reducible refine Kd.C_drewN ?_ _) | (with_reducible refine Kd.C_drew ?_))); (case side10 => exact HC0_4.out); rintro e w17 ⟨rfl, hb⟩; refine ⟨_, rfl, ?_⟩; have n0_ := qM (qb (g := gb291) (o := .cells #[.slice A0_0 l0_0.length c0_0, .slice A0_1 l0_1.length c0_1, .slice A0_2 l0_2.length c0_2, .slice A0_3 l0_3.length c0_3, .slice A0_4 l0_4.length c0_4] 27 (0, 0)) (by (with_reducible repeat (first | refine qn ?_ _ | refine qd ?_ | refine qa ?_ _)); exact BK291.out) hb); have n1_ := qM (qP (by repeat (first | (with_reducible first | exact HB.out | apply qA | apply qN | apply qD | refine qS ?_ GE291.out) | exact HB.out)) hb); clear BK291; clear HB; have BK291 := n0_; have HB := n1_; clear n0_ n1_; (try clear hb); (try clear hb2); (try clear hk); (try clear hi); obtain ⟨hcz18_0, hcz18_1, hcz18_2, hcz18_3, hcz18_4, hfz18_0, hfz18_1, hfz18_2, hfz18_3, hfz18_4⟩ := bx5 BK291.out; have p294 : 0 ≤ ((ji12) : Int) := qo (by first | (with_reducible assumption) | assumption); have q294 : (ji12) < (l0_1.length : Int) := qo (by first | (with_reducible assumption) | assumption); obtain ⟨ad294, e294, hx294_0⟩ := Kd.at_string HR0_1.out (ji12) p294 q294; cases e294; replace hx294_0 := (HB.out.cell (qB w _ hx294_0)).trans hx294_0; replace p294 := eq_true p294; replace q294 := eq_true q294))
     (go_ret); (exact ⟨by first | rfl | (simp [errW_none, errW_some] <;> rfl) | (simp only [← hji12]; first | rfl | (simp [errW_none, errW_some] <;> rfl)) | (simp [*, errW_none, errW_some] <;> rfl), by repeat (first | (with_reducible first | exact HB.out | apply qA | apply qN | apply qD | refine qS ?_ GE291.out) | exact HB.out)⟩)
    ·rw [if_neg c14] at H
     exact absurd H (by simp)
   ·rw [if_neg c13] at H
    exact absurd H (by simp)
 ·replace c4 := Bool.eq_false_iff.mpr c4
  subst c4; (have H1 : (some (⟨#[63]⟩ : ByteArray)) = some r := by rw [if_neg (show ¬ (false = true) by decide)] at H; exact H); clear H; (have H := H1); clear H1; (obtain rfl := Option.some.inj H); (go_enter Tryd.func13, Tryd.ntmps13)
  go_wp2_with (first | ((with_reducible refine gate_dst (N := 2) rfl ?_); refine box_event ?hg (N := 2) ?hd (cs := #[.slice A0_0 l0_0.length c0_0, .slice A0_1 l0_1.length c0_1, .slice A0_2 l0_2.length c0_2, .slice A0_3 l0_3.length c0_3, .slice A0_4 l0_4.length c0_4]) (t := 27) ?hr ?_; (case hd => rfl); (case hg => rfl); (case hr => first | (go_simp; done) | (go_simp; rfl)); intro gb291 hg w19 hbox hb; have n0_ := qM (qP (by repeat (first | (with_reducible first | exact HB.out | apply qA | apply qN | apply qD) | exact HB.out)) hb); have n1_ := qM (hbox); have n2_ := qM ((by rw [hg]; exact (qZ (by repeat (first | (with_reducible first | exact HB.out | apply qA | apply qN | apply qD) | exact HB.out))) : w.heap.size ≤ gb291)); have n3_ := qM ((by rw [hg]; exact (qZ (by repeat (first | (with_reducible first | exact HB.out | apply qA | apply qN | apply qD) | exact HB.out))) : w.heap.size ≤ gb291)); clear HB; have HB := n0_; have BK291 := n1_; have GW291 := n2_; have GE291 := n3_; clear n0_ n1_ n2_ n3_; clear hb hbox hg; obtain ⟨hcz20_0, hcz20_1, hcz20_2, hcz20_3, hcz20_4, hfz20_0, hfz20_1, hfz20_2, hfz20_3, hfz20_4⟩ := bx5 BK291.out) | ((with_reducible refine gate_callee (f := 36) rfl ?_); refine goesL_ (some 7) rfl rfl Tryd.func36 (by kernel_rfl) rfl #[.agg #[.slice A0_0 l0_0.length c0_0, .slice A0_1 l0_1.length c0_1, .slice A0_2 l0_2.length c0_2, .slice A0_3 l0_3.length c0_3, .slice A0_4 l0_4.length c0_4], .int .i64 a1] rfl (by (try simp only [List.map_toArray, List.map_cons, List.map_nil]); first | done | rfl | (simp only [List.length_drop, List.length_take]; rfl)) ?_; (with_reducible refine (arboristref15_Is.calls _ _ l0_0 _ _ l0_1 _ _ l0_2 _ _ l0_3 _ _ l0_4 a1 false _ ?side1 ?side2 ?side3 ?side4 ?side5 ?side6 ?side7 ?side8 ?side9 ?side10 A3.out).mono ?_); (case side1 => repeat (first | exact (Kd.C_below HR0_0.out HB.out) | (with_reducible refine Kd.C_alloc ?_ _) | (with_reducible refine Kd.C_drewN ?_ _) | (with_reducible refine Kd.C_drew ?_))); (case side2 => exact HC0_0.out); (case side3 => repeat (first | exact (Kd.C_below HR0_1.out HB.out) | (with_reducible refine Kd.C_alloc ?_ _) | (with_reducible refine Kd.C_drewN ?_ _) | (with_reducible refine Kd.C_drew ?_))); (case side4 => exact HC0_1.out); (case side5 => repeat (first | exact (Kd.C_below HR0_2.out HB.out) | (with_reducible refine Kd.C_alloc ?_ _) | (with_reducible refine Kd.C_drewN ?_ _) | (with_reducible refine Kd.C_drew ?_))); (case side6 => exact HC0_2.out); (case side7 => repeat (first | exact (Kd.C_below HR0_3.out HB.out) | (with_reducible refine Kd.C_alloc ?_ _) | (with_reducible refine Kd.C_drewN ?_ _) | (with_reducible refine Kd.C_drew ?_))); (case side8 => exact HC0_3.out); (case side9 => repeat (first | exact (Kd.C_below HR0_4.out HB.out) | (with_reducible refine Kd.C_alloc ?_ _) | (with_reducible refine Kd.C_drewN ?_ _) | (with_reducible refine Kd.C_drew ?_))); (case side10 => exact HC0_4.out); rintro e w21 ⟨rfl, hb⟩; refine ⟨_, rfl, ?_⟩; have n0_ := qM (qb (g := gb291) (o := .cells #[.slice A0_0 l0_0.length c0_0, .slice A0_1 l0_1.length c0_1, .slice A0_2 l0_2.length c0_2, .slice A0_3 l0_3.length c0_3, .slice A0_4 l0_4.length c0_4] 27 (0, 0)) (by (with_reducible repeat (first | refine qn ?_ _ | refine qd ?_ | refine qa ?_ _)); exact BK291.out) hb); have n1_ := qM (qP (by repeat (first | (with_reducible first | exact HB.out | apply qA | apply qN | apply qD | refine qS ?_ GE291.out) | exact HB.out)) hb); clear BK291; clear HB; have BK291 := n0_; have HB := n1_; clear n0_ n1_; (try clear hb); (try clear hb2); (try clear hk); (try clear hi)))
  (go_ret); (exact ⟨by first | rfl | (simp [errW_none, errW_some] <;> rfl) | (simp [*, errW_none, errW_some] <;> rfl), by repeat (first | (with_reducible first | exact HB.out | apply qA | apply qN | apply qD | refine qS ?_ GE291.out) | exact HB.out)⟩)
mutual
def arboristref15_Find.l0 : Nat → ByteArray → Int → List ByteArray → List ByteArray → List Int → List (S43) → List (S46) → Option (Int × Bool)
 | 0, _, _, _, _, _, _, _ => none
 | k + 1, x1, x6, x296000, x296001, x296002, x296003, x296004 => if x6 < (x296000.length : Int) then (if 0 ≤ x6 then (if (rdOf ByteArray.empty x296000 x6).toList = x1.toList then (some (x6, true)) else (arboristref15_Find.l0 k x1 (wrap64 (x6 + 1)) x296000 x296001 x296002 x296003 x296004)) else (none)) else (arboristref15_Find.l1 k x1 0 x296000 x296001 x296002 x296003 x296004)
def arboristref15_Find.l1 : Nat → ByteArray → Int → List ByteArray → List ByteArray → List Int → List (S43) → List (S46) → Option (Int × Bool)
 | 0, _, _, _, _, _, _, _ => none
 | k + 1, x1, x7, x296000, x296001, x296002, x296003, x296004 => if x7 < (x296001.length : Int) then (if 0 ≤ x7 then (if (rdOf ByteArray.empty x296001 x7).toList = x1.toList then (some (wrap64 ((-1) - x7), true)) else (arboristref15_Find.l1 k x1 (wrap64 (x7 + 1)) x296000 x296001 x296002 x296003 x296004)) else (none)) else (some (0, false))
end
def arboristref15_Find.f (k : Nat) (l0_0 : List ByteArray) (l0_1 : List ByteArray) (l0_2 : List Int) (l0_3 : List (S43)) (l0_4 : List (S46)) (a1 : ByteArray) : Option (Int × Bool) := arboristref15_Find.l0 k a1 0 l0_0 l0_1 l0_2 l0_3 l0_4
theorem arboristref15_Find.mono_l : ∀ k, (∀ y0 y1 y2 y3 y4 y5 y6, LeO (arboristref15_Find.l0 k y0 y1 y2 y3 y4 y5 y6) (arboristref15_Find.l0 (k + 1) y0 y1 y2 y3 y4 y5 y6)) ∧ (∀ y0 y1 y2 y3 y4 y5 y6, LeO (arboristref15_Find.l1 k y0 y1 y2 y3 y4 y5 y6) (arboristref15_Find.l1 (k + 1) y0 y1 y2 y3 y4 y5 y6))
 | 0 => ⟨fun _ _ _ _ _ _ _ r h => by simp [arboristref15_Find.l0] at h, fun _ _ _ _ _ _ _ r h => by simp [arboristref15_Find.l1] at h⟩
 | k + 1 => by
  (obtain ⟨ih0, ih1⟩ := arboristref15_Find.mono_l k); (refine ⟨?_, ?_⟩)
  ·intro y0 y1 y2 y3 y4 y5 y6
   unfold arboristref15_Find.l0
   repeat' first
   | (with_reducible exact ih0 _ _ _ _ _ _ _)
   | (with_reducible exact ih1 _ _ _ _ _ _ _)
   | (with_reducible exact LeO.refl _)
   | (with_reducible exact LeO.none _)
   | (with_reducible refine LeO.ite ?_ ?_)
   | (with_reducible refine LeO.bind ?_ (fun _ => ?_))
   | exact ih0 _ _ _ _ _ _ _
   | exact ih1 _ _ _ _ _ _ _
   | exact LeO.none _
   | refine LeO.ite ?_ ?_
   | refine LeO.bind ?_ (fun _ => ?_)
  ·intro y0 y1 y2 y3 y4 y5 y6
   unfold arboristref15_Find.l1
   repeat' first
   | (with_reducible exact ih0 _ _ _ _ _ _ _)
   | (with_reducible exact ih1 _ _ _ _ _ _ _)
   | (with_reducible exact LeO.refl _)
   | (with_reducible exact LeO.none _)
   | (with_reducible refine LeO.ite ?_ ?_)
   | (with_reducible refine LeO.bind ?_ (fun _ => ?_))
   | exact ih0 _ _ _ _ _ _ _
   | exact ih1 _ _ _ _ _ _ _
   | exact LeO.none _
   | refine LeO.ite ?_ ?_
   | refine LeO.bind ?_ (fun _ => ?_)
theorem arboristref15_Find.mono : ∀ a0 a1 a2 a3 a4 a5 k, LeO (arboristref15_Find.f k a0 a1 a2 a3 a4 a5) (arboristref15_Find.f (k + 1) a0 a1 a2 a3 a4 a5) := by
 (intro a0 a1 a2 a3 a4 a5 k); (obtain ⟨ih0, ih1⟩ := arboristref15_Find.mono_l k); (unfold arboristref15_Find.f)
 repeat' first
   | (with_reducible exact ih0 _ _ _ _ _ _ _)
   | (with_reducible exact ih1 _ _ _ _ _ _ _)
   | (with_reducible exact LeO.refl _)
   | (with_reducible exact LeO.none _)
   | (with_reducible refine LeO.ite ?_ ?_)
   | (with_reducible refine LeO.bind ?_ (fun _ => ?_))
   | exact ih0 _ _ _ _ _ _ _
   | exact ih1 _ _ _ _ _ _ _
   | exact LeO.none _
   | refine LeO.ite ?_ ?_
   | refine LeO.bind ?_ (fun _ => ?_)
set_option maxHeartbeats 8000000 in
set_option maxRecDepth 100000 in
theorem arboristref15_Find.calls (k : Nat) (A0_0 : Option Addr) (c0_0 : Nat) (l0_0 : List ByteArray) (A0_1 : Option Addr) (c0_1 : Nat) (l0_1 : List ByteArray) (A0_2 : Option Addr) (c0_2 : Nat) (l0_2 : List Int) (A0_3 : Option Addr) (c0_3 : Nat) (l0_3 : List (S43)) (A0_4 : Option Addr) (c0_4 : Nat) (l0_4 : List (S46)) (a1 : ByteArray) (r1 : Int) (r2 : Bool) (w : World) (hr0_0 : Kd.C Kd.string w A0_0 l0_0.length l0_0) (hc0_0 : l0_0.length ≤ c0_0) (hr0_1 : Kd.C Kd.string w A0_1 l0_1.length l0_1) (hc0_1 : l0_1.length ≤ c0_1) (hr0_2 : Kd.C (Kd.int .i64) w A0_2 l0_2.length l0_2) (hc0_2 : l0_2.length ≤ c0_2) (hr0_3 : Kd.C k43 w A0_3 l0_3.length l0_3) (hc0_3 : l0_3.length ≤ c0_3) (hr0_4 : Kd.C k46 w A0_4 l0_4.length l0_4) (hc0_4 : l0_4.length ≤ c0_4) (h : arboristref15_Find.f k l0_0 l0_1 l0_2 l0_3 l0_4 a1 = some (r1, r2)) :
  Calls Tryd.prog 15 #[.agg #[.slice A0_0 l0_0.length c0_0, .slice A0_1 l0_1.length c0_1, .slice A0_2 l0_2.length c0_2, .slice A0_3 l0_3.length c0_3, .slice A0_4 l0_4.length c0_4], .string a1] w fun e w' => e = .returned (.tuple #[.int .i64 r1, .bool r2]) ∧ Below w.heap.size w w' := by
 (have hu27 := Tryd.underlying27); (have HR0_0 := qM hr0_0); (have HC0_0 := qM hc0_0); clear hr0_0 hc0_0; (have HR0_1 := qM hr0_1); (have HC0_1 := qM hc0_1); clear hr0_1 hc0_1; (have HR0_2 := qM hr0_2); (have HC0_2 := qM hc0_2); clear hr0_2 hc0_2; (have HR0_3 := qM hr0_3); (have HC0_3 := qM hc0_3); clear hr0_3 hc0_3; (have HR0_4 := qM hr0_4); (have HC0_4 := qM hc0_4); clear hr0_4 hc0_4; (have HB := qM (Below.refl w.heap.size w)); (have H : (arboristref15_Find.l0 k a1 0 l0_0 l0_1 l0_2 l0_3 l0_4) = some (r1, r2) := h); clear h; (have H' := qM H); clear H; (go_enter Tryd.func15, Tryd.ntmps15)
 go_wp2_with (first | ((with_reducible refine gate_dst (N := 2) rfl ?_); refine box_event ?hg (N := 2) ?hd (cs := #[.slice A0_0 l0_0.length c0_0, .slice A0_1 l0_1.length c0_1, .slice A0_2 l0_2.length c0_2, .slice A0_3 l0_3.length c0_3, .slice A0_4 l0_4.length c0_4]) (t := 27) ?hr ?_; (case hd => rfl); (case hg => rfl); (case hr => first | (go_simp; done) | (go_simp; rfl)); intro gb295 hg w3 hbox hb; have n0_ := qM (qP (by repeat (first | (with_reducible first | exact HB.out | apply qA | apply qN | apply qD) | exact HB.out)) hb); have n1_ := qM (hbox); have n2_ := qM ((by rw [hg]; exact (qZ (by repeat (first | (with_reducible first | exact HB.out | apply qA | apply qN | apply qD) | exact HB.out))) : w.heap.size ≤ gb295)); have n3_ := qM ((by rw [hg]; exact (qZ (by repeat (first | (with_reducible first | exact HB.out | apply qA | apply qN | apply qD) | exact HB.out))) : w.heap.size ≤ gb295)); clear HB; have HB := n0_; have BK295 := n1_; have GW295 := n2_; have GE295 := n3_; clear n0_ n1_ n2_ n3_; clear hb hbox hg))
 go_loopg [6] k (fun kq v6 w' => ∃ (x6_1 : Int), v6 = .int .i64 x6_1 ∧ Aside0 (arboristref15_Find.l0 kq a1 x6_1 l0_0 l0_1 l0_2 l0_3 l0_4 = some (r1, r2)) ∧ Aside0 (kq ≤ k) ∧ Aside0 (w'.heap[gb295]? = some (.cells #[(.slice A0_0 l0_0.length c0_0), (.slice A0_1 l0_1.length c0_1), (.slice A0_2 l0_2.length c0_2), (.slice A0_3 l0_3.length c0_3), (.slice A0_4 l0_4.length c0_4)] 27 (0, 0))) ∧ Aside0 (Below w.heap.size w w'))
 case atStart => exact ⟨(0), (by first | rfl | (simp; done) | (simp [*]; done)), H', ⟨Nat.le_refl _⟩, ⟨by (with_reducible repeat (first | refine qn ?_ _ | refine qd ?_ | refine qa ?_ _)); exact BK295.out⟩, ⟨by repeat (first | (with_reducible first | exact HB.out | apply qA | apply qN | apply qD | refine qS ?_ GE295.out) | exact HB.out)⟩⟩
 case round =>
  (clear H'); (try clear c1); (try clear p2); (obtain ⟨x6_1, rfl, HA, HK1, BK295, HB⟩ := hrel)
  cases gk with
  | zero => exact absurd HA.out (by simp [arboristref15_Find.l0])
  | succ k1 =>
   (have H := HA.out); clear HA; (simp only [arboristref15_Find.l0] at H); (by_cases c4 : x6_1 < (l0_0.length : Int))
   ·rw [if_pos c4] at H
    (have c4b0 : decide (x6_1 < (l0_0.length : Int)) = true := decide_eq_true c4); clear c4; (by_cases c5 : 0 ≤ x6_1)
    ·rw [if_pos c5] at H
     (have c5b0 : decide (0 ≤ x6_1) = true := decide_eq_true c5); clear c5; (by_cases c6 : (rdOf ByteArray.empty l0_0 x6_1).toList = a1.toList)
     ·rw [if_pos c6] at H
      (have c6b0 : ((rdOf ByteArray.empty l0_0 x6_1).toList == a1.toList) = true := beq_iff_eq.mpr c6); (have c6b1 : ((rdOf ByteArray.empty l0_0 x6_1).toList != a1.toList) = false := bne_eq_false_iff_eq.mpr c6); clear c6; (simp only [Option.some.injEq, Prod.mk.injEq] at H); (obtain ⟨rfl, rfl⟩ := H); (obtain ⟨hcz7_0, hcz7_1, hcz7_2, hcz7_3, hcz7_4, hfz7_0, hfz7_1, hfz7_2, hfz7_3, hfz7_4⟩ := bx5 BK295.out); (have p296 : 0 ≤ (x6_1 : Int) := qo (by first | (with_reducible assumption) | assumption)); (have q296 : x6_1 < (l0_0.length : Int) := qo (by first | (with_reducible assumption) | assumption)); (obtain ⟨ad296, e296, hx296_0⟩ := Kd.at_string HR0_0.out x6_1 p296 q296)
      cases e296
      (replace hx296_0 := (HB.out.cell (qB w _ hx296_0)).trans hx296_0); (replace p296 := eq_true p296); (replace q296 := eq_true q296); go_wp2; (go_ret2); (exact ⟨by first | rfl | (simp [errW_none, errW_some] <;> rfl) | (simp [*, errW_none, errW_some] <;> rfl), by repeat (first | (with_reducible first | exact HB.out | apply qA | apply qN | apply qD | refine qS ?_ GE295.out) | exact HB.out)⟩)
     ·rw [if_neg c6] at H
      (have c6b0 : ((rdOf ByteArray.empty l0_0 x6_1).toList == a1.toList) = false := beq_eq_false_iff_ne.mpr c6); (have c6b1 : ((rdOf ByteArray.empty l0_0 x6_1).toList != a1.toList) = true := bne_iff_ne.mpr c6); (have H' := qM H); clear H; (obtain ⟨hcz8_0, hcz8_1, hcz8_2, hcz8_3, hcz8_4, hfz8_0, hfz8_1, hfz8_2, hfz8_3, hfz8_4⟩ := bx5 BK295.out); (have p296 : 0 ≤ (x6_1 : Int) := qo (by first | (with_reducible assumption) | assumption)); (have q296 : x6_1 < (l0_0.length : Int) := qo (by first | (with_reducible assumption) | assumption)); (obtain ⟨ad296, e296, hx296_0⟩ := Kd.at_string HR0_0.out x6_1 p296 q296)
      cases e296
      (replace hx296_0 := (HB.out.cell (qB w _ hx296_0)).trans hx296_0); (replace p296 := eq_true p296); (replace q296 := eq_true q296); go_wp2; (go_roundg k1)
      case measure => have := HK1.out; omega
      case rel => exact ⟨(wrap64 (x6_1 + 1)), (by first | rfl | (simp; done) | (simp [*]; done)), H', ⟨by have := HK1.out; omega⟩, ⟨by (with_reducible repeat (first | refine qn ?_ _ | refine qd ?_ | refine qa ?_ _)); exact BK295.out⟩, ⟨by repeat (first | (with_reducible first | exact HB.out | apply qA | apply qN | apply qD | refine qS ?_ GE295.out) | exact HB.out)⟩⟩
    ·rw [if_neg c5] at H
     exact absurd H (by simp)
   ·rw [if_neg c4] at H
    (have c4b0 : decide (x6_1 < (l0_0.length : Int)) = false := decide_eq_false c4); clear c4; (have H' := qM H); clear H; (obtain ⟨hcz9_0, hcz9_1, hcz9_2, hcz9_3, hcz9_4, hfz9_0, hfz9_1, hfz9_2, hfz9_3, hfz9_4⟩ := bx5 BK295.out); go_wp2; (go_loopg [7] k1 (fun kq v7 w' => ∃ (x7_2 : Int), v7 = .int .i64 x7_2 ∧ Aside0 (arboristref15_Find.l1 kq a1 x7_2 l0_0 l0_1 l0_2 l0_3 l0_4 = some (r1, r2)) ∧ Aside0 (kq ≤ k1) ∧ Aside0 (w'.heap[gb295]? = some (.cells #[(.slice A0_0 l0_0.length c0_0), (.slice A0_1 l0_1.length c0_1), (.slice A0_2 l0_2.length c0_2), (.slice A0_3 l0_3.length c0_3), (.slice A0_4 l0_4.length c0_4)] 27 (0, 0))) ∧ Aside0 (Below w.heap.size w w')))
    case atStart => exact ⟨(0), (by first | rfl | (simp; done) | (simp [*]; done)), H', ⟨Nat.le_refl _⟩, ⟨by (with_reducible repeat (first | refine qn ?_ _ | refine qd ?_ | refine qa ?_ _)); exact BK295.out⟩, ⟨by repeat (first | (with_reducible first | exact HB.out | apply qA | apply qN | apply qD | refine qS ?_ GE295.out) | exact HB.out)⟩⟩
    case round =>
     (clear H'); (try clear c1); (try clear p2); (try clear q2); (try clear hx2); (try clear c4); (try clear c4b0); (try clear c5); (try clear c5b0); (try clear c6); (try clear c6b0); (try clear c6b1); (try clear p6); (try clear hcz7_0 hcz7_1 hcz7_2 hcz7_3 hcz7_4); (try clear hcz8_0 hcz8_1 hcz8_2 hcz8_3 hcz8_4); (try clear hcz9_0 hcz9_1 hcz9_2 hcz9_3 hcz9_4); (try clear hfz7_0 hfz7_1 hfz7_2 hfz7_3 hfz7_4); (try clear hfz8_0 hfz8_1 hfz8_2 hfz8_3 hfz8_4); (try clear hfz9_0 hfz9_1 hfz9_2 hfz9_3 hfz9_4); (try clear hx296_0); (try clear p2); (try clear p296); (try clear q296); (obtain ⟨x7_2, rfl, HA, HK2, BK295, HB⟩ := hrel)
     cases gk with
     | zero => exact absurd HA.out (by simp [arboristref15_Find.l1])
     | succ k2 =>
      (have H := HA.out); clear HA; (simp only [arboristref15_Find.l1] at H); (by_cases c10 : x7_2 < (l0_1.length : Int))
      ·rw [if_pos c10] at H
       (have c10b0 : decide (x7_2 < (l0_1.length : Int)) = true := decide_eq_true c10); clear c10; (by_cases c11 : 0 ≤ x7_2)
       ·rw [if_pos c11] at H
        (have c11b0 : decide (0 ≤ x7_2) = true := decide_eq_true c11); clear c11; (by_cases c12 : (rdOf ByteArray.empty l0_1 x7_2).toList = a1.toList)
        ·rw [if_pos c12] at H
         (have c12b0 : ((rdOf ByteArray.empty l0_1 x7_2).toList == a1.toList) = true := beq_iff_eq.mpr c12); (have c12b1 : ((rdOf ByteArray.empty l0_1 x7_2).toList != a1.toList) = false := bne_eq_false_iff_eq.mpr c12); clear c12; (simp only [Option.some.injEq, Prod.mk.injEq] at H); (obtain ⟨rfl, rfl⟩ := H); (obtain ⟨hcz13_0, hcz13_1, hcz13_2, hcz13_3, hcz13_4, hfz13_0, hfz13_1, hfz13_2, hfz13_3, hfz13_4⟩ := bx5 BK295.out); (have p297 : 0 ≤ (x7_2 : Int) := qo (by first | (with_reducible assumption) | assumption)); (have q297 : x7_2 < (l0_1.length : Int) := qo (by first | (with_reducible assumption) | assumption)); (obtain ⟨ad297, e297, hx297_0⟩ := Kd.at_string HR0_1.out x7_2 p297 q297)
         cases e297
         (replace hx297_0 := (HB.out.cell (qB w _ hx297_0)).trans hx297_0); (replace p297 := eq_true p297); (replace q297 := eq_true q297); go_wp2; (go_ret2); (exact ⟨by first | rfl | (simp [errW_none, errW_some] <;> rfl) | (simp [*, errW_none, errW_some] <;> rfl), by repeat (first | (with_reducible first | exact HB.out | apply qA | apply qN | apply qD | refine qS ?_ GE295.out) | exact HB.out)⟩)
        ·rw [if_neg c12] at H
         (have c12b0 : ((rdOf ByteArray.empty l0_1 x7_2).toList == a1.toList) = false := beq_eq_false_iff_ne.mpr c12); (have c12b1 : ((rdOf ByteArray.empty l0_1 x7_2).toList != a1.toList) = true := bne_iff_ne.mpr c12); (have H' := qM H); clear H; (obtain ⟨hcz14_0, hcz14_1, hcz14_2, hcz14_3, hcz14_4, hfz14_0, hfz14_1, hfz14_2, hfz14_3, hfz14_4⟩ := bx5 BK295.out); (have p297 : 0 ≤ (x7_2 : Int) := qo (by first | (with_reducible assumption) | assumption)); (have q297 : x7_2 < (l0_1.length : Int) := qo (by first | (with_reducible assumption) | assumption)); (obtain ⟨ad297, e297, hx297_0⟩ := Kd.at_string HR0_1.out x7_2 p297 q297)
         cases e297
         (replace hx297_0 := (HB.out.cell (qB w _ hx297_0)).trans hx297_0); (replace p297 := eq_true p297); (replace q297 := eq_true q297); go_wp2; (go_roundg k2)
         case measure => have := HK1.out; have := HK2.out; omega
         case rel => exact ⟨(wrap64 (x7_2 + 1)), (by first | rfl | (simp; done) | (simp [*]; done)), H', ⟨by have := HK1.out; have := HK2.out; omega⟩, ⟨by (with_reducible repeat (first | refine qn ?_ _ | refine qd ?_ | refine qa ?_ _)); exact BK295.out⟩, ⟨by repeat (first | (with_reducible first | exact HB.out | apply qA | apply qN | apply qD | refine qS ?_ GE295.out) | exact HB.out)⟩⟩
       ·rw [if_neg c11] at H
        exact absurd H (by simp)
      ·rw [if_neg c10] at H
       (have c10b0 : decide (x7_2 < (l0_1.length : Int)) = false := decide_eq_false c10); clear c10; (simp only [Option.some.injEq, Prod.mk.injEq] at H); (obtain ⟨rfl, rfl⟩ := H); (obtain ⟨hcz15_0, hcz15_1, hcz15_2, hcz15_3, hcz15_4, hfz15_0, hfz15_1, hfz15_2, hfz15_3, hfz15_4⟩ := bx5 BK295.out); go_wp2; (go_ret2); (exact ⟨by first | rfl | (simp [errW_none, errW_some] <;> rfl) | (simp [*, errW_none, errW_some] <;> rfl), by repeat (first | (with_reducible first | exact HB.out | apply qA | apply qN | apply qD | refine qS ?_ GE295.out) | exact HB.out)⟩)
def arboristref15_Word.l0 : Nat → List Int → ByteArray → Int → List ByteArray → List ByteArray → List Int → List (S43) → List (S46) → Option (ByteArray)
 | 0, _, _, _, _, _, _, _, _ => none
 | k + 1, x1, x5, x6, x299000, x299001, x299002, x299003, x299004 => if x6 < (x1.length : Int) then (if x6 > 0 then (if x5.size + 1 ≤ 9223372036854775807 then (if 0 ≤ x6 then ((arboristref15_Sym.f x299000 x299001 x299002 x299003 x299004 (rd x1 x6)).bind fun t300 => (if (x5 ++ (⟨#[32]⟩ : ByteArray)).size + t300.size ≤ 9223372036854775807 then (arboristref15_Word.l0 k x1 ((x5 ++ (⟨#[32]⟩ : ByteArray)) ++ t300) (wrap64 (x6 + 1)) x299000 x299001 x299002 x299003 x299004) else (none))) else (none)) else (none)) else (if 0 ≤ x6 then ((arboristref15_Sym.f x299000 x299001 x299002 x299003 x299004 (rd x1 x6)).bind fun t302 => (if x5.size + t302.size ≤ 9223372036854775807 then (arboristref15_Word.l0 k x1 (x5 ++ t302) (wrap64 (x6 + 1)) x299000 x299001 x299002 x299003 x299004) else (none))) else (none))) else (some x5)
def arboristref15_Word.f (k : Nat) (l0_0 : List ByteArray) (l0_1 : List ByteArray) (l0_2 : List Int) (l0_3 : List (S43)) (l0_4 : List (S46)) (l1 : List Int) : Option (ByteArray) := arboristref15_Word.l0 k l1 (⟨#[]⟩ : ByteArray) 0 l0_0 l0_1 l0_2 l0_3 l0_4
theorem arboristref15_Word.mono_l : ∀ k, (∀ y0 y1 y2 y3 y4 y5 y6 y7, LeO (arboristref15_Word.l0 k y0 y1 y2 y3 y4 y5 y6 y7) (arboristref15_Word.l0 (k + 1) y0 y1 y2 y3 y4 y5 y6 y7))
 | 0 => fun _ _ _ _ _ _ _ _ r h => by simp [arboristref15_Word.l0] at h
 | k + 1 => by
  have ih0 := arboristref15_Word.mono_l k
  ·intro y0 y1 y2 y3 y4 y5 y6 y7
   unfold arboristref15_Word.l0
   repeat' first
   | (with_reducible exact ih0 _ _ _ _ _ _ _ _)
   | (with_reducible exact LeO.refl _)
   | (with_reducible exact LeO.none _)
   | (with_reducible refine LeO.ite ?_ ?_)
   | (with_reducible refine LeO.bind ?_ (fun _ => ?_))
   | exact ih0 _ _ _ _ _ _ _ _
   | exact LeO.none _
   | refine LeO.ite ?_ ?_
   | refine LeO.bind ?_ (fun _ => ?_)
theorem arboristref15_Word.mono : ∀ a0 a1 a2 a3 a4 a5 k, LeO (arboristref15_Word.f k a0 a1 a2 a3 a4 a5) (arboristref15_Word.f (k + 1) a0 a1 a2 a3 a4 a5) := by
 (intro a0 a1 a2 a3 a4 a5 k); (have ih0 := arboristref15_Word.mono_l k); (unfold arboristref15_Word.f)
 repeat' first
   | (with_reducible exact ih0 _ _ _ _ _ _ _ _)
   | (with_reducible exact LeO.refl _)
   | (with_reducible exact LeO.none _)
   | (with_reducible refine LeO.ite ?_ ?_)
   | (with_reducible refine LeO.bind ?_ (fun _ => ?_))
   | exact ih0 _ _ _ _ _ _ _ _
   | exact LeO.none _
   | refine LeO.ite ?_ ?_
   | refine LeO.bind ?_ (fun _ => ?_)
def arboristref15_Word.T7 : Bool × List (List Nat × List Nat) := (true, [([], []), ([], []), ([], []), ([], []), ([2, 3], [2, 3]), ([4], [4]), ([1, 5], [1, 5]), ([0, 6], [0, 6]), ([7, 6, 0, 1, 2, 3, 4, 5, 6, 7], [0, 7])])
def arboristref15_Word.B7 : List Nat := [0, 0, 0, 0, 12, 28, 62, 127, 255]
theorem arboristref15_Word.tab7 : rtab .any (opsOf Tryd.f17 7) = arboristref15_Word.T7 := by kernel_rfl
theorem arboristref15_Word.bits7 : waitsOk arboristref15_Word.T7.2 arboristref15_Word.B7 = true := by kernel_rfl
set_option maxHeartbeats 8000000 in
set_option maxRecDepth 100000 in
theorem arboristref15_Word.calls (k : Nat) (A0_0 : Option Addr) (c0_0 : Nat) (l0_0 : List ByteArray) (A0_1 : Option Addr) (c0_1 : Nat) (l0_1 : List ByteArray) (A0_2 : Option Addr) (c0_2 : Nat) (l0_2 : List Int) (A0_3 : Option Addr) (c0_3 : Nat) (l0_3 : List (S43)) (A0_4 : Option Addr) (c0_4 : Nat) (l0_4 : List (S46)) (A1 : Option Addr) (c1 : Nat) (l1 : List Int) (r : ByteArray) (w : World) (hr0_0 : Kd.C Kd.string w A0_0 l0_0.length l0_0) (hc0_0 : l0_0.length ≤ c0_0) (hr0_1 : Kd.C Kd.string w A0_1 l0_1.length l0_1) (hc0_1 : l0_1.length ≤ c0_1) (hr0_2 : Kd.C (Kd.int .i64) w A0_2 l0_2.length l0_2) (hc0_2 : l0_2.length ≤ c0_2) (hr0_3 : Kd.C k43 w A0_3 l0_3.length l0_3) (hc0_3 : l0_3.length ≤ c0_3) (hr0_4 : Kd.C k46 w A0_4 l0_4.length l0_4) (hc0_4 : l0_4.length ≤ c0_4) (hr1 : Kd.C (Kd.int .i64) w A1 l1.length l1) (hc1 : l1.length ≤ c1) (h : arboristref15_Word.f k l0_0 l0_1 l0_2 l0_3 l0_4 l1 = some r) :
  Calls Tryd.prog 17 #[.agg #[.slice A0_0 l0_0.length c0_0, .slice A0_1 l0_1.length c0_1, .slice A0_2 l0_2.length c0_2, .slice A0_3 l0_3.length c0_3, .slice A0_4 l0_4.length c0_4], .slice A1 l1.length c1] w fun e w' => e = .returned (.string r) ∧ Below w.heap.size w w' := by
 (have hu27 := Tryd.underlying27); (have HR0_0 := qM hr0_0); (have HC0_0 := qM hc0_0); clear hr0_0 hc0_0; (have HR0_1 := qM hr0_1); (have HC0_1 := qM hc0_1); clear hr0_1 hc0_1; (have HR0_2 := qM hr0_2); (have HC0_2 := qM hc0_2); clear hr0_2 hc0_2; (have HR0_3 := qM hr0_3); (have HC0_3 := qM hc0_3); clear hr0_3 hc0_3; (have HR0_4 := qM hr0_4); (have HC0_4 := qM hc0_4); clear hr0_4 hc0_4; (have HR1 := qM hr1); (have HC1 := qM hc1); clear hr1 hc1; (have HB := qM (Below.refl w.heap.size w)); (have H : (arboristref15_Word.l0 k l1 (⟨#[]⟩ : ByteArray) 0 l0_0 l0_1 l0_2 l0_3 l0_4) = some r := h); clear h; (have H' := qM H); clear H; (go_enter Tryd.func17, Tryd.ntmps17)
 go_wp2_with (first | ((with_reducible refine gate_dst (N := 2) rfl ?_); refine box_event ?hg (N := 2) ?hd (cs := #[.slice A0_0 l0_0.length c0_0, .slice A0_1 l0_1.length c0_1, .slice A0_2 l0_2.length c0_2, .slice A0_3 l0_3.length c0_3, .slice A0_4 l0_4.length c0_4]) (t := 27) ?hr ?_; (case hd => rfl); (case hg => rfl); (case hr => first | (go_simp; done) | (go_simp; rfl)); intro gb298 hg w3 hbox hb; have n0_ := qM (qP (by repeat (first | (with_reducible first | exact HB.out | apply qA | apply qN | apply qD) | exact HB.out)) hb); have n1_ := qM (hbox); have n2_ := qM ((by rw [hg]; exact (qZ (by repeat (first | (with_reducible first | exact HB.out | apply qA | apply qN | apply qD) | exact HB.out))) : w.heap.size ≤ gb298)); have n3_ := qM ((by rw [hg]; exact (qZ (by repeat (first | (with_reducible first | exact HB.out | apply qA | apply qN | apply qD) | exact HB.out))) : w.heap.size ≤ gb298)); clear HB; have HB := n0_; have BK298 := n1_; have GW298 := n2_; have GE298 := n3_; clear n0_ n1_ n2_ n3_; clear hb hbox hg))
 go_loopg [5, 6] k (fun kq v5 v6 w' => ∃ (x5_1 : ByteArray) (x6_1 : Int), v5 = .string x5_1 ∧ v6 = .int .i64 x6_1 ∧ Aside0 (arboristref15_Word.l0 kq l1 x5_1 x6_1 l0_0 l0_1 l0_2 l0_3 l0_4 = some r) ∧ Aside0 (kq ≤ k) ∧ Aside0 (w'.heap[gb298]? = some (.cells #[(.slice A0_0 l0_0.length c0_0), (.slice A0_1 l0_1.length c0_1), (.slice A0_2 l0_2.length c0_2), (.slice A0_3 l0_3.length c0_3), (.slice A0_4 l0_4.length c0_4)] 27 (0, 0))) ∧ Aside0 (Below w.heap.size w w'))
 case atStart => exact ⟨((⟨#[]⟩ : ByteArray)), (0), (by first | rfl | (simp; done) | (simp [*]; done)), (by first | rfl | (simp; done) | (simp [*]; done)), H', ⟨Nat.le_refl _⟩, ⟨by (with_reducible repeat (first | refine qn ?_ _ | refine qd ?_ | refine qa ?_ _)); exact BK298.out⟩, ⟨by repeat (first | (with_reducible first | exact HB.out | apply qA | apply qN | apply qD | refine qS ?_ GE298.out) | exact HB.out)⟩⟩
 case round =>
  (clear H'); (try clear c1); (try clear p2); (obtain ⟨x5_1, x6_1, rfl, rfl, HA, HK1, BK298, HB⟩ := hrel)
  cases gk with
  | zero => exact absurd HA.out (by simp [arboristref15_Word.l0])
  | succ k1 =>
   (have H := HA.out); clear HA; (simp only [arboristref15_Word.l0] at H); (by_cases c4 : x6_1 < (l1.length : Int))
   ·rw [if_pos c4] at H
    (have c4b0 : decide (x6_1 < (l1.length : Int)) = true := decide_eq_true c4); clear c4; (by_cases c5 : x6_1 > 0)
    ·rw [if_pos c5] at H
     (have c5b0 : decide (0 < x6_1) = true := decide_eq_true c5); clear c5; (by_cases c6 : x5_1.size + 1 ≤ 9223372036854775807)
     ·rw [if_pos c6] at H
      (have c6b0 := eq_true c6); (have c6b1 : decide (x5_1.size + 1 ≤ 9223372036854775807) = true := decide_eq_true c6); (try have c6b2 : (9223372036854775807 < x5_1.size + 1) = False := eq_false (Nat.not_lt.2 c6)); (by_cases c7 : 0 ≤ x6_1)
      ·rw [if_pos c7] at H
       (have c7b0 : decide (0 ≤ x6_1) = true := decide_eq_true c7); clear c7; (replace H := Option.bind_eq_some_iff.mp H); (obtain ⟨t300, A80, H⟩ := H); (replace H : (if (x5_1 ++ (⟨#[32]⟩ : ByteArray)).size + t300.size ≤ 9223372036854775807 then (arboristref15_Word.l0 k1 l1 ((x5_1 ++ (⟨#[32]⟩ : ByteArray)) ++ t300) (wrap64 (x6_1 + 1)) l0_0 l0_1 l0_2 l0_3 l0_4) else (none)) = some r := H); (have A8 := qM A80); clear A80; (by_cases c9 : (x5_1 ++ (⟨#[32]⟩ : ByteArray)).size + t300.size ≤ 9223372036854775807)
       ·rw [if_pos c9] at H
        (have c9b0 := eq_true c9); (have c9b1 : decide ((x5_1 ++ (⟨#[32]⟩ : ByteArray)).size + t300.size ≤ 9223372036854775807) = true := decide_eq_true c9); (try have c9b2 : (9223372036854775807 < (x5_1 ++ (⟨#[32]⟩ : ByteArray)).size + t300.size) = False := eq_false (Nat.not_lt.2 c9)); (try have c9b3 : (9223372036854775807 < x5_1.size + 1 + t300.size) = False := eq_false (Nat.not_lt.2 (by have h_ := c9; simp only [ByteArray.size_append] at h_; exact h_))); (have H' := qM H); clear H; (try go_wp2); (have n0_ := qM (qd BK298.out)); (have n1_ := qM (qD HB.out)); clear BK298 HB; (have BK298 := n0_); (have HB := n1_); clear n0_ n1_; (have p299 : 0 ≤ (x6_1 : Int) := qo (by first | (with_reducible assumption) | assumption)); (have q299 : x6_1 < (l1.length : Int) := qo (by first | (with_reducible assumption) | assumption)); (obtain ⟨ad299, e299, hx299_0⟩ := Kd.at_int HR1.out x6_1 p299 q299); (have hw299_0 := hx299_0)
        cases e299
        (replace hx299_0 := (HB.out.cell (qB w _ hx299_0)).trans hx299_0); (replace p299 := eq_true p299); (replace q299 := eq_true q299)
        refine start_ (n := 9) (S := fun w' => w'.cell? ⟨gb298, 0, none⟩ = some (.slice A0_0 l0_0.length c0_0) ∧ w'.cell? ⟨gb298, 1, none⟩ = some (.slice A0_1 l0_1.length c0_1) ∧ w'.cell? ⟨gb298, 2, none⟩ = some (.slice A0_2 l0_2.length c0_2) ∧ w'.cell? ⟨gb298, 3, none⟩ = some (.slice A0_3 l0_3.length c0_3) ∧ w'.cell? ⟨gb298, 4, none⟩ = some (.slice A0_4 l0_4.length c0_4) ∧ w'.cell? (ad299.add (x6_1).toNat) = some (.int .i64 (rd l1 x6_1))) (ds := []) #[false, false, false, false, false, false, false, false, false] (by kernel_rfl) rfl rfl ⟨(blk_cell BK298.out 0).trans rfl, (blk_cell BK298.out 1).trans rfl, (blk_cell BK298.out 2).trans rfl, (blk_cell BK298.out 3).trans rfl, (blk_cell BK298.out 4).trans rfl, ((HB.out.cell (qB w _ hw299_0)).trans hw299_0)⟩ (fun hHeld => ?_); refine with_tabW arboristref15_Word.tab7 arboristref15_Word.bits7 (fun HT_ HW_ => ?_)
        (generalize wr.drew = w10 at BK298 HB hx299_0 hHeld ⊢); (refine pure_ (i := 0) (N := some 17) (v := ?_) (a' := ?_) #[true, false, false, false, false, false, false, false, false] rfl rfl (any_of HT_.out (by kernel_rfl)) (fun _ _ _ h => h) (Or.inl ⟨by rfl, ?_⟩) ?_ ?_); rotate_left; ((intro w'; go_simp; with_reducible rfl)); rotate_left; ((simp only [Act.put, List.setIfInBounds_toArray, List.set_cons_zero, List.set_cons_succ, i64_w, i32_w]; rfl)); (refine pure_ (i := 2) (N := some 19) (v := ?_) (a' := ?_) #[true, false, true, false, false, false, false, false, false] rfl rfl (any_of HT_.out (by kernel_rfl)) (fun _ _ _ h => h) (Or.inl ⟨by rfl, ?_⟩) ?_ ?_); rotate_left; ((intro w'; go_simp; with_reducible rfl)); rotate_left; ((simp only [Act.put, List.setIfInBounds_toArray, List.set_cons_zero, List.set_cons_succ, i64_w, i32_w]; rfl)); (refine pure_ (i := 3) (N := some 20) (v := ?_) (a' := ?_) #[true, false, true, true, false, false, false, false, false] rfl rfl (any_of HT_.out (by kernel_rfl)) (fun _ _ _ h => h) (Or.inl ⟨by rfl, ?_⟩) ?_ ?_); rotate_left; ((intro w'; go_simp; with_reducible rfl)); rotate_left; ((simp only [Act.put, List.setIfInBounds_toArray, List.set_cons_zero, List.set_cons_succ, i64_w, i32_w]; rfl)); (refine pure_ (i := 4) (N := some 21) (v := ?_) (a' := ?_) #[true, false, true, true, true, false, false, false, false] rfl rfl (any_of HT_.out (by kernel_rfl)) (fun _ _ _ h => h) (Or.inl ⟨by rfl, ?_⟩) ?_ ?_); rotate_left; ((intro w'; go_simp; with_reducible rfl)); rotate_left; ((simp only [Act.put, List.setIfInBounds_toArray, List.set_cons_zero, List.set_cons_succ, i64_w, i32_w]; rfl)); (refine take_ (i := 1) (N := some 18) (v := ?_) (a' := ?_) #[true, true, true, true, true, false, false, false, false] rfl rfl (take_ofW HT_.out HW_.out (by kernel_rfl)) (fun _ _ _ h => h) (Or.inl ⟨by rfl, ?_⟩) hHeld ?_ ?_); rotate_left
        ·rintro w' ⟨s0, s1, s2, s3, s4, s5⟩
         (go_simp); (with_reducible rfl)
        rotate_left; ((simp only [Act.put, List.setIfInBounds_toArray, List.set_cons_zero, List.set_cons_succ, i64_w, i32_w]; rfl)); (refine take_ (i := 5) (N := some 22) (v := ?_) (a' := ?_) #[true, true, true, true, true, true, false, false, false] rfl rfl (take_ofW HT_.out HW_.out (by kernel_rfl)) (fun _ _ _ h => h) (Or.inl ⟨by rfl, ?_⟩) hHeld ?_ ?_); rotate_left
        ·rintro w' ⟨s0, s1, s2, s3, s4, s5⟩
         (go_simp); (with_reducible rfl)
        rotate_left; ((simp only [Act.put, List.setIfInBounds_toArray, List.set_cons_zero, List.set_cons_succ, i64_w, i32_w]; rfl)); (refine one_ (i := 6) (N := some 23) #[true, true, true, true, true, true, true, false, false] rfl rfl (one_of HT_.out (by kernel_rfl)) (by decide) (fun K hK => ?_)); (refine goes_ Tryd.func13 (by kernel_rfl) rfl #[.agg #[.slice A0_0 l0_0.length c0_0, .slice A0_1 l0_1.length c0_1, .slice A0_2 l0_2.length c0_2, .slice A0_3 l0_3.length c0_3, .slice A0_4 l0_4.length c0_4], .int .i64 (rd l1 x6_1)] (by rfl) rfl rfl (by (try simp only [List.map_toArray, List.map_cons, List.map_nil]); first | done | rfl | (simp only [List.length_drop, List.length_take]; rfl)) ?_); (with_reducible refine (arboristref15_Sym.calls _ _ l0_0 _ _ l0_1 _ _ l0_2 _ _ l0_3 _ _ l0_4 (rd l1 x6_1) t300 _ ?side1 ?side2 ?side3 ?side4 ?side5 ?side6 ?side7 ?side8 ?side9 ?side10 A8.out).mono ?_); ((case side1 => repeat (first | exact (Kd.C_below HR0_0.out HB.out) | (with_reducible refine Kd.C_alloc ?_ _) | (with_reducible refine Kd.C_drewN ?_ _) | (with_reducible refine Kd.C_drew ?_)))); ((case side2 => exact HC0_0.out)); ((case side3 => repeat (first | exact (Kd.C_below HR0_1.out HB.out) | (with_reducible refine Kd.C_alloc ?_ _) | (with_reducible refine Kd.C_drewN ?_ _) | (with_reducible refine Kd.C_drew ?_)))); ((case side4 => exact HC0_1.out)); ((case side5 => repeat (first | exact (Kd.C_below HR0_2.out HB.out) | (with_reducible refine Kd.C_alloc ?_ _) | (with_reducible refine Kd.C_drewN ?_ _) | (with_reducible refine Kd.C_drew ?_)))); ((case side6 => exact HC0_2.out)); ((case side7 => repeat (first | exact (Kd.C_below HR0_3.out HB.out) | (with_reducible refine Kd.C_alloc ?_ _) | (with_reducible refine Kd.C_drewN ?_ _) | (with_reducible refine Kd.C_drew ?_)))); ((case side8 => exact HC0_3.out)); ((case side9 => repeat (first | exact (Kd.C_below HR0_4.out HB.out) | (with_reducible refine Kd.C_alloc ?_ _) | (with_reducible refine Kd.C_drewN ?_ _) | (with_reducible refine Kd.C_drew ?_)))); ((case side10 => exact HC0_4.out)); (rintro e w11 ⟨rfl, hb⟩); (refine ⟨_, rfl, ?_⟩); (have n0_ := qM (qb (g := gb298) (o := .cells #[.slice A0_0 l0_0.length c0_0, .slice A0_1 l0_1.length c0_1, .slice A0_2 l0_2.length c0_2, .slice A0_3 l0_3.length c0_3, .slice A0_4 l0_4.length c0_4] 27 (0, 0)) (by (with_reducible repeat (first | refine qn ?_ _ | refine qd ?_ | refine qa ?_ _)); exact BK298.out) hb)); (have n1_ := qM (qP (by repeat (first | (with_reducible first | exact HB.out | apply qA | apply qN | apply qD | refine qS ?_ GE298.out) | exact HB.out)) hb))
        clear BK298 HB; (have BK298 := n0_); (have HB := n1_); clear n0_ n1_; ((try clear hb)); ((try clear hb2)); ((try clear hk)); ((try clear hi)); (refine hK.out _ _ ⟨(blk_cell BK298.out 0).trans rfl, (blk_cell BK298.out 1).trans rfl, (blk_cell BK298.out 2).trans rfl, (blk_cell BK298.out 3).trans rfl, (blk_cell BK298.out 4).trans rfl, ((HB.out.cell (qB w _ hw299_0)).trans hw299_0)⟩ (fun hHeld => ?_)); clear hK K; (refine norm_ (a' := ?_) ?_ ?_); rotate_left; ((show Act.put _ (some 23) _ = _; simp only [Act.put, List.setIfInBounds_toArray, List.set_cons_zero, List.set_cons_succ, i64_w, i32_w]; rfl)); (refine pure_ (i := 7) (N := some 24) (v := ?_) (a' := ?_) #[true, true, true, true, true, true, true, true, false] rfl rfl (any_of HT_.out (by kernel_rfl)) (fun _ _ _ h => h) (Or.inl ⟨by rfl, ?_⟩) ?_ ?_); rotate_left; ((intro w'; go_simp; with_reducible rfl)); rotate_left; ((simp only [Act.put, List.setIfInBounds_toArray, List.set_cons_zero, List.set_cons_succ, i64_w, i32_w]; rfl)); (refine pure_ (i := 8) (N := some 5) (v := ?_) (a' := ?_) #[true, true, true, true, true, true, true, true, true] rfl rfl (any_of HT_.out (by kernel_rfl)) (fun _ _ _ h => h) (Or.inl ⟨by rfl, ?_⟩) ?_ ?_); rotate_left; ((intro w'; go_simp; with_reducible rfl)); rotate_left; ((simp only [Act.put, List.setIfInBounds_toArray, List.set_cons_zero, List.set_cons_succ, i64_w, i32_w]; rfl)); (refine done_ (done_of HT_.out (by kernel_rfl)) ?_); (try go_wp2); (go_roundg k1)
        case measure => have := HK1.out; omega
        case rel => exact ⟨((x5_1 ++ (⟨#[32]⟩ : ByteArray)) ++ t300), (wrap64 (x6_1 + 1)), (by first | rfl | (simp; done) | (simp [*]; done)), (by first | rfl | (simp; done) | (simp [*]; done)), H', ⟨by have := HK1.out; omega⟩, ⟨by (with_reducible repeat (first | refine qn ?_ _ | refine qd ?_ | refine qa ?_ _)); exact BK298.out⟩, ⟨by repeat (first | (with_reducible first | exact HB.out | apply qA | apply qN | apply qD | refine qS ?_ GE298.out) | exact HB.out)⟩⟩
       ·rw [if_neg c9] at H
        exact absurd H (by simp)
      ·rw [if_neg c7] at H
       exact absurd H (by simp)
     ·rw [if_neg c6] at H
      exact absurd H (by simp)
    ·rw [if_neg c5] at H
     (have c5b0 : decide (0 < x6_1) = false := decide_eq_false c5); clear c5; (by_cases c12 : 0 ≤ x6_1)
     ·rw [if_pos c12] at H
      (have c12b0 : decide (0 ≤ x6_1) = true := decide_eq_true c12); clear c12; (replace H := Option.bind_eq_some_iff.mp H); (obtain ⟨t302, A130, H⟩ := H); (replace H : (if x5_1.size + t302.size ≤ 9223372036854775807 then (arboristref15_Word.l0 k1 l1 (x5_1 ++ t302) (wrap64 (x6_1 + 1)) l0_0 l0_1 l0_2 l0_3 l0_4) else (none)) = some r := H); (have A13 := qM A130); clear A130; (by_cases c14 : x5_1.size + t302.size ≤ 9223372036854775807)
      ·rw [if_pos c14] at H
       (have c14b0 := eq_true c14); (have c14b1 : decide (x5_1.size + t302.size ≤ 9223372036854775807) = true := decide_eq_true c14); (try have c14b2 : (9223372036854775807 < x5_1.size + t302.size) = False := eq_false (Nat.not_lt.2 c14)); (have H' := qM H); clear H; (try go_wp2); (have n0_ := qM (qd BK298.out)); (have n1_ := qM (qD HB.out)); clear BK298 HB; (have BK298 := n0_); (have HB := n1_); clear n0_ n1_; (have p301 : 0 ≤ (x6_1 : Int) := qo (by first | (with_reducible assumption) | assumption)); (have q301 : x6_1 < (l1.length : Int) := qo (by first | (with_reducible assumption) | assumption)); (obtain ⟨ad301, e301, hx301_0⟩ := Kd.at_int HR1.out x6_1 p301 q301); (have hw301_0 := hx301_0)
       cases e301
       (replace hx301_0 := (HB.out.cell (qB w _ hx301_0)).trans hx301_0); (replace p301 := eq_true p301); (replace q301 := eq_true q301)
       refine start_ (n := 9) (S := fun w' => w'.cell? ⟨gb298, 0, none⟩ = some (.slice A0_0 l0_0.length c0_0) ∧ w'.cell? ⟨gb298, 1, none⟩ = some (.slice A0_1 l0_1.length c0_1) ∧ w'.cell? ⟨gb298, 2, none⟩ = some (.slice A0_2 l0_2.length c0_2) ∧ w'.cell? ⟨gb298, 3, none⟩ = some (.slice A0_3 l0_3.length c0_3) ∧ w'.cell? ⟨gb298, 4, none⟩ = some (.slice A0_4 l0_4.length c0_4) ∧ w'.cell? (ad301.add (x6_1).toNat) = some (.int .i64 (rd l1 x6_1))) (ds := []) #[false, false, false, false, false, false, false, false, false] (by kernel_rfl) rfl rfl ⟨(blk_cell BK298.out 0).trans rfl, (blk_cell BK298.out 1).trans rfl, (blk_cell BK298.out 2).trans rfl, (blk_cell BK298.out 3).trans rfl, (blk_cell BK298.out 4).trans rfl, ((HB.out.cell (qB w _ hw301_0)).trans hw301_0)⟩ (fun hHeld => ?_); refine with_tabW arboristref15_Word.tab7 arboristref15_Word.bits7 (fun HT_ HW_ => ?_)
       (generalize wr.drew = w15 at BK298 HB hx301_0 hHeld ⊢); (refine pure_ (i := 0) (N := some 17) (v := ?_) (a' := ?_) #[true, false, false, false, false, false, false, false, false] rfl rfl (any_of HT_.out (by kernel_rfl)) (fun _ _ _ h => h) (Or.inl ⟨by rfl, ?_⟩) ?_ ?_); rotate_left; ((intro w'; go_simp; with_reducible rfl)); rotate_left; ((simp only [Act.put, List.setIfInBounds_toArray, List.set_cons_zero, List.set_cons_succ, i64_w, i32_w]; rfl)); (refine pure_ (i := 2) (N := some 19) (v := ?_) (a' := ?_) #[true, false, true, false, false, false, false, false, false] rfl rfl (any_of HT_.out (by kernel_rfl)) (fun _ _ _ h => h) (Or.inl ⟨by rfl, ?_⟩) ?_ ?_); rotate_left; ((intro w'; go_simp; with_reducible rfl)); rotate_left; ((simp only [Act.put, List.setIfInBounds_toArray, List.set_cons_zero, List.set_cons_succ, i64_w, i32_w]; rfl)); (refine pure_ (i := 3) (N := some 20) (v := ?_) (a' := ?_) #[true, false, true, true, false, false, false, false, false] rfl rfl (any_of HT_.out (by kernel_rfl)) (fun _ _ _ h => h) (Or.inl ⟨by rfl, ?_⟩) ?_ ?_); rotate_left; ((intro w'; go_simp; with_reducible rfl)); rotate_left; ((simp only [Act.put, List.setIfInBounds_toArray, List.set_cons_zero, List.set_cons_succ, i64_w, i32_w]; rfl)); (refine pure_ (i := 4) (N := some 21) (v := ?_) (a' := ?_) #[true, false, true, true, true, false, false, false, false] rfl rfl (any_of HT_.out (by kernel_rfl)) (fun _ _ _ h => h) (Or.inl ⟨by rfl, ?_⟩) ?_ ?_); rotate_left; ((intro w'; go_simp; with_reducible rfl)); rotate_left; ((simp only [Act.put, List.setIfInBounds_toArray, List.set_cons_zero, List.set_cons_succ, i64_w, i32_w]; rfl)); (refine take_ (i := 1) (N := some 18) (v := ?_) (a' := ?_) #[true, true, true, true, true, false, false, false, false] rfl rfl (take_ofW HT_.out HW_.out (by kernel_rfl)) (fun _ _ _ h => h) (Or.inl ⟨by rfl, ?_⟩) hHeld ?_ ?_); rotate_left
       ·rintro w' ⟨s0, s1, s2, s3, s4, s5⟩
        (go_simp); (with_reducible rfl)
       rotate_left; ((simp only [Act.put, List.setIfInBounds_toArray, List.set_cons_zero, List.set_cons_succ, i64_w, i32_w]; rfl)); (refine take_ (i := 5) (N := some 22) (v := ?_) (a' := ?_) #[true, true, true, true, true, true, false, false, false] rfl rfl (take_ofW HT_.out HW_.out (by kernel_rfl)) (fun _ _ _ h => h) (Or.inl ⟨by rfl, ?_⟩) hHeld ?_ ?_); rotate_left
       ·rintro w' ⟨s0, s1, s2, s3, s4, s5⟩
        (go_simp); (with_reducible rfl)
       rotate_left; ((simp only [Act.put, List.setIfInBounds_toArray, List.set_cons_zero, List.set_cons_succ, i64_w, i32_w]; rfl)); (refine one_ (i := 6) (N := some 23) #[true, true, true, true, true, true, true, false, false] rfl rfl (one_of HT_.out (by kernel_rfl)) (by decide) (fun K hK => ?_)); (refine goes_ Tryd.func13 (by kernel_rfl) rfl #[.agg #[.slice A0_0 l0_0.length c0_0, .slice A0_1 l0_1.length c0_1, .slice A0_2 l0_2.length c0_2, .slice A0_3 l0_3.length c0_3, .slice A0_4 l0_4.length c0_4], .int .i64 (rd l1 x6_1)] (by rfl) rfl rfl (by (try simp only [List.map_toArray, List.map_cons, List.map_nil]); first | done | rfl | (simp only [List.length_drop, List.length_take]; rfl)) ?_); (with_reducible refine (arboristref15_Sym.calls _ _ l0_0 _ _ l0_1 _ _ l0_2 _ _ l0_3 _ _ l0_4 (rd l1 x6_1) t302 _ ?side1 ?side2 ?side3 ?side4 ?side5 ?side6 ?side7 ?side8 ?side9 ?side10 A13.out).mono ?_); ((case side1 => repeat (first | exact (Kd.C_below HR0_0.out HB.out) | (with_reducible refine Kd.C_alloc ?_ _) | (with_reducible refine Kd.C_drewN ?_ _) | (with_reducible refine Kd.C_drew ?_)))); ((case side2 => exact HC0_0.out)); ((case side3 => repeat (first | exact (Kd.C_below HR0_1.out HB.out) | (with_reducible refine Kd.C_alloc ?_ _) | (with_reducible refine Kd.C_drewN ?_ _) | (with_reducible refine Kd.C_drew ?_)))); ((case side4 => exact HC0_1.out)); ((case side5 => repeat (first | exact (Kd.C_below HR0_2.out HB.out) | (with_reducible refine Kd.C_alloc ?_ _) | (with_reducible refine Kd.C_drewN ?_ _) | (with_reducible refine Kd.C_drew ?_)))); ((case side6 => exact HC0_2.out)); ((case side7 => repeat (first | exact (Kd.C_below HR0_3.out HB.out) | (with_reducible refine Kd.C_alloc ?_ _) | (with_reducible refine Kd.C_drewN ?_ _) | (with_reducible refine Kd.C_drew ?_)))); ((case side8 => exact HC0_3.out)); ((case side9 => repeat (first | exact (Kd.C_below HR0_4.out HB.out) | (with_reducible refine Kd.C_alloc ?_ _) | (with_reducible refine Kd.C_drewN ?_ _) | (with_reducible refine Kd.C_drew ?_)))); ((case side10 => exact HC0_4.out)); (rintro e w16 ⟨rfl, hb⟩); (refine ⟨_, rfl, ?_⟩); (have n0_ := qM (qb (g := gb298) (o := .cells #[.slice A0_0 l0_0.length c0_0, .slice A0_1 l0_1.length c0_1, .slice A0_2 l0_2.length c0_2, .slice A0_3 l0_3.length c0_3, .slice A0_4 l0_4.length c0_4] 27 (0, 0)) (by (with_reducible repeat (first | refine qn ?_ _ | refine qd ?_ | refine qa ?_ _)); exact BK298.out) hb)); (have n1_ := qM (qP (by repeat (first | (with_reducible first | exact HB.out | apply qA | apply qN | apply qD | refine qS ?_ GE298.out) | exact HB.out)) hb))
       clear BK298 HB; (have BK298 := n0_); (have HB := n1_); clear n0_ n1_; ((try clear hb)); ((try clear hb2)); ((try clear hk)); ((try clear hi)); (refine hK.out _ _ ⟨(blk_cell BK298.out 0).trans rfl, (blk_cell BK298.out 1).trans rfl, (blk_cell BK298.out 2).trans rfl, (blk_cell BK298.out 3).trans rfl, (blk_cell BK298.out 4).trans rfl, ((HB.out.cell (qB w _ hw301_0)).trans hw301_0)⟩ (fun hHeld => ?_)); clear hK K; (refine norm_ (a' := ?_) ?_ ?_); rotate_left; ((show Act.put _ (some 23) _ = _; simp only [Act.put, List.setIfInBounds_toArray, List.set_cons_zero, List.set_cons_succ, i64_w, i32_w]; rfl)); (refine pure_ (i := 7) (N := some 24) (v := ?_) (a' := ?_) #[true, true, true, true, true, true, true, true, false] rfl rfl (any_of HT_.out (by kernel_rfl)) (fun _ _ _ h => h) (Or.inl ⟨by rfl, ?_⟩) ?_ ?_); rotate_left; ((intro w'; go_simp; with_reducible rfl)); rotate_left; ((simp only [Act.put, List.setIfInBounds_toArray, List.set_cons_zero, List.set_cons_succ, i64_w, i32_w]; rfl)); (refine pure_ (i := 8) (N := some 5) (v := ?_) (a' := ?_) #[true, true, true, true, true, true, true, true, true] rfl rfl (any_of HT_.out (by kernel_rfl)) (fun _ _ _ h => h) (Or.inl ⟨by rfl, ?_⟩) ?_ ?_); rotate_left; ((intro w'; go_simp; with_reducible rfl)); rotate_left; ((simp only [Act.put, List.setIfInBounds_toArray, List.set_cons_zero, List.set_cons_succ, i64_w, i32_w]; rfl)); (refine done_ (done_of HT_.out (by kernel_rfl)) ?_); (try go_wp2); (go_roundg k1)
       case measure => have := HK1.out; omega
       case rel => exact ⟨(x5_1 ++ t302), (wrap64 (x6_1 + 1)), (by first | rfl | (simp; done) | (simp [*]; done)), (by first | rfl | (simp; done) | (simp [*]; done)), H', ⟨by have := HK1.out; omega⟩, ⟨by (with_reducible repeat (first | refine qn ?_ _ | refine qd ?_ | refine qa ?_ _)); exact BK298.out⟩, ⟨by repeat (first | (with_reducible first | exact HB.out | apply qA | apply qN | apply qD | refine qS ?_ GE298.out) | exact HB.out)⟩⟩
      ·rw [if_neg c14] at H
       exact absurd H (by simp)
     ·rw [if_neg c12] at H
      exact absurd H (by simp)
   ·rw [if_neg c4] at H
    (have c4b0 : decide (x6_1 < (l1.length : Int)) = false := decide_eq_false c4); clear c4; (obtain rfl := Option.some.inj H); go_wp2; (go_ret); (exact ⟨by first | rfl | (simp [errW_none, errW_some] <;> rfl) | (simp [*, errW_none, errW_some] <;> rfl), by repeat (first | (with_reducible first | exact HB.out | apply qA | apply qN | apply qD | refine qS ?_ GE298.out) | exact HB.out)⟩)
def arboristref15_digits.f : Nat → Int → Option (ByteArray)
 | 0, _ => none
 | k + 1, a0 => if a0 < 10 then (some (strOfNums (([(wrap64 (48 + a0)) % 256] : List Int)))) else ((arboristref15_digits.f k (wrap64 (Int.tdiv a0 10))).bind fun t306 => ((some (([(wrap64 (48 + (Int.tmod a0 10))) % 256] : List Int) : List Int)).bind fun y307 => (if t306.size + (strOfNums y307).size ≤ 9223372036854775807 then (some (t306 ++ (strOfNums y307))) else (none))))
theorem arboristref15_digits.mono_l : ∀ k, (∀ y0, LeO (arboristref15_digits.f k y0) (arboristref15_digits.f (k + 1) y0))
 | 0 => fun _ r h => by simp [arboristref15_digits.f] at h
 | k + 1 => by
  have ih0 := arboristref15_digits.mono_l k
  ·intro y0
   unfold arboristref15_digits.f
   repeat' first
   | (with_reducible exact ih0 _)
   | (with_reducible exact LeO.refl _)
   | (with_reducible exact LeO.none _)
   | (with_reducible refine LeO.ite ?_ ?_)
   | (with_reducible refine LeO.bind ?_ (fun _ => ?_))
   | exact ih0 _
   | exact LeO.none _
   | refine LeO.ite ?_ ?_
   | refine LeO.bind ?_ (fun _ => ?_)
theorem arboristref15_digits.mono : ∀ a0 k, LeO (arboristref15_digits.f k a0) (arboristref15_digits.f (k + 1) a0) := by
 (intro a0 k); (have ih0 := arboristref15_digits.mono_l k); (exact ih0 a0)
def arboristref15_digits.T3 : Bool × List (List Nat × List Nat) := (true, [([], []), ([0], [0]), ([1], [1]), ([], []), ([3], [3]), ([4], [4]), ([5], [5]), ([6], [6]), ([7], [7]), ([2, 8], [2, 8]), ([9, 2, 0, 1, 2, 3, 4, 5, 6, 7, 8, 9], [9])])
def arboristref15_digits.B3 : List Nat := [0, 1, 3, 0, 8, 24, 56, 120, 248, 511, 1023]
theorem arboristref15_digits.tab3 : rtab .any (opsOf Tryd.f41 3) = arboristref15_digits.T3 := by kernel_rfl
theorem arboristref15_digits.bits3 : waitsOk arboristref15_digits.T3.2 arboristref15_digits.B3 = true := by kernel_rfl
set_option maxHeartbeats 8000000 in
set_option maxRecDepth 100000 in
theorem arboristref15_digits.calls (k : Nat) : ∀ (a0 : Int) (r : ByteArray) (w : World) (h : arboristref15_digits.f k a0 = some r),
  Calls Tryd.prog 41 #[.int .i64 a0] w fun e w' => e = .returned (.string r) ∧ Below w.heap.size w w' := by
 induction k using Nat.strongRecOn with
 | _ k ih =>
 intro a0 r w h
 cases k with
 | zero => exact absurd h (by simp [arboristref15_digits.f])
 | succ k =>
 (simp only [arboristref15_digits.f] at h); (have HB := qM (Below.refl w.heap.size w)); (have H : (if a0 < 10 then (some (strOfNums (([(wrap64 (48 + a0)) % 256] : List Int)))) else ((arboristref15_digits.f k (wrap64 (Int.tdiv a0 10))).bind fun t306 => ((some (([(wrap64 (48 + (Int.tmod a0 10))) % 256] : List Int) : List Int)).bind fun y307 => (if t306.size + (strOfNums y307).size ≤ 9223372036854775807 then (some (t306 ++ (strOfNums y307))) else (none))))) = some r := h); clear h; (by_cases c2 : a0 < 10)
 ·rw [if_pos c2] at H
  (have c2b0 : decide (a0 < 10) = true := decide_eq_true c2); clear c2; (obtain ⟨y303, hy303⟩ : ∃ y_ : List Int, y_ = (([(wrap64 (48 + a0)) % 256] : List Int)) := ⟨_, rfl⟩); (replace H : (some (strOfNums y303)) = some r := by first | (rw [hy303]; with_reducible exact H) | (have H2_ := (Option.bind_some _ _).symm.trans H; rw [hy303]; with_reducible exact H2_) | (have H2_ := (Option.bind_some _ _).symm.trans H; with_reducible exact H2_) | with_reducible exact H | (rw [hy303]; exact H) | exact H); (have Ny303 := qM hy303); clear hy303; (obtain rfl := Option.some.inj H); (go_enter Tryd.func41, Tryd.ntmps41)
  go_wp2_with (first | ((with_reducible refine gate_dst (N := 8) rfl ?_); refine Kd.R_lit (Kd.int .u8) _ 5 ?hg (N := 8) ?hd (xs := ([(wrap64 (48 + a0)) % 256] : List Int)) (inner := [.int .u8 ((wrap64 (48 + a0)) % 256)]) (ok := fun _ => True) (okp := fun _ => True) ?hr ?hp (fun _ hk => hk) trivial (Below.refl _ _) (Nat.le_refl _) (by simp) ?_; (case hd => rfl); (case hg => rfl); (case hr => first | (go_simp; done) | (go_simp; rfl)); (case hp => exact (Reps.one (show Kd.M (Kd.int .u8) _ _ _ ((wrap64 (48 + a0)) % 256) [.int .u8 ((wrap64 (48 + a0)) % 256)] from rfl) (Reps.none _ _))); intro v304 w3 ho4 hb hg_ hnew_; clear hg_ hnew_; (first | rw [← Ny303.out] at ho4 | (simp only [Int.reduceToNat] at ho4; rw [← Ny303.out] at ho4)); have n0_ := qM (Kd.R_lower ho4 (qZ (by repeat (first | (with_reducible first | exact HB.out | apply qA | apply qN | apply qD) | exact HB.out)))); have n1_ := qM (qP (by repeat (first | (with_reducible first | exact HB.out | apply qA | apply qN | apply qD) | exact HB.out)) hb); clear HB; have HO305 := n0_; have HB := n1_; clear n0_ n1_; clear hb ho4; have hcv5 := own_string (P := Tryd.prog) Tryd.underlying57 Tryd.underlying5 Tryd.underlying9 (Kd.own_of_R HO305.out)))
  (go_ret); (exact ⟨by first | rfl | (simp [errW_none, errW_some] <;> rfl) | (simp [*, errW_none, errW_some] <;> rfl), by repeat (first | (with_reducible first | exact HB.out | apply qA | apply qN | apply qD) | exact HB.out)⟩)
 ·rw [if_neg c2] at H
  (have c2b0 : decide (a0 < 10) = false := decide_eq_false c2); clear c2; (replace H := Option.bind_eq_some_iff.mp H); (obtain ⟨t306, A60, H⟩ := H); (replace H : ((some (([(wrap64 (48 + (Int.tmod a0 10))) % 256] : List Int) : List Int)).bind fun y307 => (if t306.size + (strOfNums y307).size ≤ 9223372036854775807 then (some (t306 ++ (strOfNums y307))) else (none))) = some r := H); (have A6 := qM A60); clear A60; (obtain ⟨y307, hy307⟩ : ∃ y_ : List Int, y_ = (([(wrap64 (48 + (Int.tmod a0 10))) % 256] : List Int)) := ⟨_, rfl⟩); (replace H : (if t306.size + (strOfNums y307).size ≤ 9223372036854775807 then (some (t306 ++ (strOfNums y307))) else (none)) = some r := by first | (rw [hy307]; with_reducible exact H) | (have H2_ := (Option.bind_some _ _).symm.trans H; rw [hy307]; with_reducible exact H2_) | (have H2_ := (Option.bind_some _ _).symm.trans H; with_reducible exact H2_) | with_reducible exact H | (rw [hy307]; exact H) | exact H); (have Ny307 := qM hy307); clear hy307; (by_cases c7 : t306.size + (strOfNums y307).size ≤ 9223372036854775807)
  ·rw [if_pos c7] at H
   (have c7b0 := eq_true c7); (have c7b1 : decide (t306.size + (strOfNums y307).size ≤ 9223372036854775807) = true := decide_eq_true c7); (try have c7b2 : (9223372036854775807 < t306.size + (strOfNums y307).size) = False := eq_false (Nat.not_lt.2 c7)); (obtain rfl := Option.some.inj H); (go_enter Tryd.func41, Tryd.ntmps41); (try go_wp2); (have n0_ := qM (qD HB.out)); clear HB; (have HB := n0_); clear n0_; (refine start_ (n := 11) (S := fun w' => True) (ds := []) #[false, false, false, false, false, false, false, false, false, false, false] (by kernel_rfl) rfl rfl trivial (fun hHeld => ?_); refine with_tabW arboristref15_digits.tab3 arboristref15_digits.bits3 (fun HT_ HW_ => ?_)); (generalize w.drew = w8 at HB hHeld ⊢); (refine pure_ (i := 0) (N := some 10) (v := ?_) (a' := ?_) #[true, false, false, false, false, false, false, false, false, false, false] rfl rfl (any_of HT_.out (by kernel_rfl)) (fun _ _ _ h => h) (Or.inl ⟨by rfl, ?_⟩) ?_ ?_); rotate_left; ((intro w'; go_simp; with_reducible rfl)); rotate_left; ((simp only [Act.put, List.setIfInBounds_toArray, List.set_cons_zero, List.set_cons_succ, i64_w, i32_w]; rfl)); (refine pure_ (i := 1) (N := some 11) (v := ?_) (a' := ?_) #[true, true, false, false, false, false, false, false, false, false, false] rfl rfl (any_of HT_.out (by kernel_rfl)) (fun _ _ _ h => h) (Or.inl ⟨by rfl, ?_⟩) ?_ ?_); rotate_left; ((intro w'; go_simp; with_reducible rfl)); rotate_left; ((simp only [Act.put, List.setIfInBounds_toArray, List.set_cons_zero, List.set_cons_succ, i64_w, i32_w]; rfl)); (refine pure_ (i := 3) (N := some 13) (v := ?_) (a' := ?_) #[true, true, false, true, false, false, false, false, false, false, false] rfl rfl (any_of HT_.out (by kernel_rfl)) (fun _ _ _ h => h) (Or.inl ⟨by rfl, ?_⟩) ?_ ?_); rotate_left; ((intro w'; go_simp; with_reducible rfl)); rotate_left; ((simp only [Act.put, List.setIfInBounds_toArray, List.set_cons_zero, List.set_cons_succ, i64_w, i32_w]; rfl)); (refine pure_ (i := 4) (N := some 14) (v := ?_) (a' := ?_) #[true, true, false, true, true, false, false, false, false, false, false] rfl rfl (any_of HT_.out (by kernel_rfl)) (fun _ _ _ h => h) (Or.inl ⟨by rfl, ?_⟩) ?_ ?_); rotate_left; ((intro w'; go_simp; with_reducible rfl)); rotate_left; ((simp only [Act.put, List.setIfInBounds_toArray, List.set_cons_zero, List.set_cons_succ, i64_w, i32_w]; rfl)); (refine pure_ (i := 5) (N := some 15) (v := ?_) (a' := ?_) #[true, true, false, true, true, true, false, false, false, false, false] rfl rfl (any_of HT_.out (by kernel_rfl)) (fun _ _ _ h => h) (Or.inl ⟨by rfl, ?_⟩) ?_ ?_)
   rotate_left; ((intro w'; go_simp; with_reducible rfl)); rotate_left; ((simp only [Act.put, List.setIfInBounds_toArray, List.set_cons_zero, List.set_cons_succ, i64_w, i32_w]; rfl)); (refine pure_ (i := 6) (N := some 16) (v := ?_) (a' := ?_) #[true, true, false, true, true, true, true, false, false, false, false] rfl rfl (any_of HT_.out (by kernel_rfl)) (fun _ _ _ h => h) (Or.inl ⟨by rfl, ?_⟩) ?_ ?_); rotate_left; ((intro w'; go_simp; with_reducible rfl)); rotate_left; ((simp only [Act.put, List.setIfInBounds_toArray, List.set_cons_zero, List.set_cons_succ, i64_w, i32_w]; rfl)); (refine join_ (σ := Value) 2 #[true, true, true, true, true, true, true, true, true, false, false] (fun s_ => [(12, .string t306), (17, s_), (18, .string (strOfNums y307))]) (fun s_ w' => (Kd.R (Kd.int .u8) 5 w' w.heap.size (fun _ => True) s_ y307) ∧ (Below w.heap.size w w')) ?_ ?_); rotate_left
   ·intro hCont
    refine two_ (i := 2) (j := 7) (Ni := some 12) (Nj := some 17) #[true, true, true, true, true, true, true, false, false, false, false] #[true, true, false, true, true, true, true, true, false, false, false] rfl rfl rfl rfl (two_of HT_.out (by kernel_rfl)) (by decide) (by decide) (fun K hK => ?_) (fun K hK => ?_)
    ·skip
     (refine goes_ Tryd.func41 (by kernel_rfl) rfl #[.int .i64 (wrap64 (Int.tdiv a0 10))] (by rfl) rfl rfl (by (try simp only [List.map_toArray, List.map_cons, List.map_nil]); first | done | rfl | (simp only [List.length_drop, List.length_take]; rfl)) ?_); (with_reducible refine (ih k (by omega) (wrap64 (Int.tdiv a0 10)) t306 _ A6.out).mono ?_); (rintro e w9 ⟨rfl, hb⟩); (refine ⟨_, rfl, ?_⟩); (have n0_ := qM (qP (by repeat (first | (with_reducible first | exact HB.out | apply qA | apply qN | apply qD) | exact HB.out)) hb)); clear HB; (have HB := n0_); clear n0_; ((try clear hb)); ((try clear hb2)); ((try clear hk)); ((try clear hi)); (refine hK.out _ _ trivial (fun hHeld => ?_)); clear hK K; (refine norm_ (a' := ?_) ?_ ?_); rotate_left; ((show Act.put _ (some 12) _ = _; simp only [Act.put, List.setIfInBounds_toArray, List.set_cons_zero, List.set_cons_succ, i64_w, i32_w]; rfl)); (refine one_ (i := 7) (N := some 17) #[true, true, true, true, true, true, true, true, false, false, false] rfl rfl (one_of HT_.out (by kernel_rfl)) (by decide) (fun K hK => ?_)); (refine Kd.R_lit_step (Kd.int .u8) _ 5 ?hg (N := 17) ?hd (xs := ([(wrap64 (48 + (Int.tmod a0 10))) % 256] : List Int)) (inner := [.int .u8 ((wrap64 (48 + (Int.tmod a0 10))) % 256)]) (ok := fun _ => True) (okp := fun _ => True) ?hr ?hp (fun _ hk => hk) trivial (Below.refl _ _) (Nat.le_refl _) (by simp) ?_; (case hd => rfl); (case hg => rfl); (case hr => first | (go_simp; done) | (go_simp; rfl)); (case hp => exact (Reps.one (show Kd.M (Kd.int .u8) _ _ _ ((wrap64 (48 + (Int.tmod a0 10))) % 256) [.int .u8 ((wrap64 (48 + (Int.tmod a0 10))) % 256)] from rfl) (Reps.none _ _)))); (intro v308 w10 ho11 hb hg_ hnew_); clear hg_ hnew_; ((first | rw [← Ny307.out] at ho11 | (simp only [Int.reduceToNat] at ho11; rw [← Ny307.out] at ho11))); (have n0_ := qM (Kd.R_lower ho11 (qZ (by repeat (first | (with_reducible first | exact HB.out | apply qA | apply qN | apply qD) | exact HB.out))))); (have n1_ := qM (qP (by repeat (first | (with_reducible first | exact HB.out | apply qA | apply qN | apply qD) | exact HB.out)) hb)); clear HB; (have HO309 := n0_); (have HB := n1_); clear n0_ n1_ hb ho11; (refine hK.out _ _ trivial (fun hHeld => ?_)); clear hK K; (refine norm_ (a' := ?_) ?_ ?_); rotate_left; ((show Act.put _ (some 17) _ = _; simp only [Act.put, List.setIfInBounds_toArray, List.set_cons_zero, List.set_cons_succ, i64_w, i32_w]; rfl)); (refine one_ (i := 8) (N := some 18) #[true, true, true, true, true, true, true, true, true, false, false] rfl rfl (one_of HT_.out (by kernel_rfl)) (by decide) (fun K hK => ?_))
     (have hcv12 := own_string (P := Tryd.prog) Tryd.underlying57 Tryd.underlying5 Tryd.underlying9 (Kd.own_of_R HO309.out)); (refine value_ (w1 := ?_) (v := ?_) (by rfl) rfl ?_ ?_); (rotate_left 2)
     ·go_simp
      constructor
      ·rfl
      ·rfl
     clear hcv12; (refine hK.out _ _ trivial (fun hHeld => ?_)); clear hK K; (refine norm_ (a' := ?_) ?_ ?_); rotate_left; ((show Act.put _ (some 18) _ = _; simp only [Act.put, List.setIfInBounds_toArray, List.set_cons_zero, List.set_cons_succ, i64_w, i32_w]; rfl)); (exact norm_ (by simp only [putAll, Act.put, List.setIfInBounds_toArray, List.set_cons_zero, List.set_cons_succ]) (hCont (v308) _ ⟨(by (with_reducible repeat (first | apply Kd.R_alloc | apply Kd.R_drewN | apply Kd.R_drew)); exact HO309.out), (by repeat (first | (with_reducible first | exact HB.out | apply qA | apply qN | apply qD) | exact HB.out))⟩))
    ·skip
     (refine Kd.R_lit_step (Kd.int .u8) _ 5 ?hg (N := 17) ?hd (xs := ([(wrap64 (48 + (Int.tmod a0 10))) % 256] : List Int)) (inner := [.int .u8 ((wrap64 (48 + (Int.tmod a0 10))) % 256)]) (ok := fun _ => True) (okp := fun _ => True) ?hr ?hp (fun _ hk => hk) trivial (Below.refl _ _) (Nat.le_refl _) (by simp) ?_; (case hd => rfl); (case hg => rfl); (case hr => first | (go_simp; done) | (go_simp; rfl)); (case hp => exact (Reps.one (show Kd.M (Kd.int .u8) _ _ _ ((wrap64 (48 + (Int.tmod a0 10))) % 256) [.int .u8 ((wrap64 (48 + (Int.tmod a0 10))) % 256)] from rfl) (Reps.none _ _)))); (intro v308 w9 ho10 hb hg_ hnew_); clear hg_ hnew_; ((first | rw [← Ny307.out] at ho10 | (simp only [Int.reduceToNat] at ho10; rw [← Ny307.out] at ho10))); (have n0_ := qM (Kd.R_lower ho10 (qZ (by repeat (first | (with_reducible first | exact HB.out | apply qA | apply qN | apply qD) | exact HB.out))))); (have n1_ := qM (qP (by repeat (first | (with_reducible first | exact HB.out | apply qA | apply qN | apply qD) | exact HB.out)) hb)); clear HB; (have HO309 := n0_); (have HB := n1_); clear n0_ n1_ hb ho10; (refine hK.out _ _ trivial (fun hHeld => ?_)); clear hK K; (refine norm_ (a' := ?_) ?_ ?_); rotate_left; ((show Act.put _ (some 17) _ = _; simp only [Act.put, List.setIfInBounds_toArray, List.set_cons_zero, List.set_cons_succ, i64_w, i32_w]; rfl)); (refine two_ (i := 2) (j := 8) (Ni := some 12) (Nj := some 18) #[true, true, true, true, true, true, true, true, false, false, false] #[true, true, false, true, true, true, true, true, true, false, false] rfl rfl rfl rfl (two_of HT_.out (by kernel_rfl)) (by decide) (by decide) (fun K hK => ?_) (fun K hK => ?_))
     ·skip
      (refine goes_ Tryd.func41 (by kernel_rfl) rfl #[.int .i64 (wrap64 (Int.tdiv a0 10))] (by rfl) rfl rfl (by (try simp only [List.map_toArray, List.map_cons, List.map_nil]); first | done | rfl | (simp only [List.length_drop, List.length_take]; rfl)) ?_); (with_reducible refine (ih k (by omega) (wrap64 (Int.tdiv a0 10)) t306 _ A6.out).mono ?_); (rintro e w11 ⟨rfl, hb⟩); (refine ⟨_, rfl, ?_⟩); (have n0_ := qM (Kd.R_below (by (with_reducible repeat (first | apply Kd.R_alloc | apply Kd.R_drewN | apply Kd.R_drew)); exact HO309.out) hb)); (have n1_ := qM (qP (by repeat (first | (with_reducible first | exact HB.out | apply qA | apply qN | apply qD) | exact HB.out)) hb)); clear HO309 HB; (have HO309 := n0_); (have HB := n1_); clear n0_ n1_; ((try clear hb)); ((try clear hb2)); ((try clear hk)); ((try clear hi)); (refine hK.out _ _ trivial (fun hHeld => ?_)); clear hK K; (refine norm_ (a' := ?_) ?_ ?_); rotate_left; ((show Act.put _ (some 12) _ = _; simp only [Act.put, List.setIfInBounds_toArray, List.set_cons_zero, List.set_cons_succ, i64_w, i32_w]; rfl)); (refine one_ (i := 8) (N := some 18) #[true, true, true, true, true, true, true, true, true, false, false] rfl rfl (one_of HT_.out (by kernel_rfl)) (by decide) (fun K hK => ?_)); (have hcv12 := own_string (P := Tryd.prog) Tryd.underlying57 Tryd.underlying5 Tryd.underlying9 (Kd.own_of_R HO309.out)); (refine value_ (w1 := ?_) (v := ?_) (by rfl) rfl ?_ ?_); (rotate_left 2)
      ·go_simp
       constructor
       ·rfl
       ·rfl
      clear hcv12; (refine hK.out _ _ trivial (fun hHeld => ?_)); clear hK K; (refine norm_ (a' := ?_) ?_ ?_); rotate_left; ((show Act.put _ (some 18) _ = _; simp only [Act.put, List.setIfInBounds_toArray, List.set_cons_zero, List.set_cons_succ, i64_w, i32_w]; rfl)); (exact norm_ (by simp only [putAll, Act.put, List.setIfInBounds_toArray, List.set_cons_zero, List.set_cons_succ]) (hCont (v308) _ ⟨(by (with_reducible repeat (first | apply Kd.R_alloc | apply Kd.R_drewN | apply Kd.R_drew)); exact HO309.out), (by repeat (first | (with_reducible first | exact HB.out | apply qA | apply qN | apply qD) | exact HB.out))⟩))
     ·skip
      (have hcv11 := own_string (P := Tryd.prog) Tryd.underlying57 Tryd.underlying5 Tryd.underlying9 (Kd.own_of_R HO309.out)); (refine value_ (w1 := ?_) (v := ?_) (by rfl) rfl ?_ ?_); (rotate_left 2)
      ·go_simp
       constructor
       ·rfl
       ·rfl
      clear hcv11; (refine hK.out _ _ trivial (fun hHeld => ?_)); clear hK K; (refine norm_ (a' := ?_) ?_ ?_); rotate_left; ((show Act.put _ (some 18) _ = _; simp only [Act.put, List.setIfInBounds_toArray, List.set_cons_zero, List.set_cons_succ, i64_w, i32_w]; rfl)); (refine one_ (i := 2) (N := some 12) #[true, true, true, true, true, true, true, true, true, false, false] rfl rfl (one_of HT_.out (by kernel_rfl)) (by decide) (fun K hK => ?_)); (refine goes_ Tryd.func41 (by kernel_rfl) rfl #[.int .i64 (wrap64 (Int.tdiv a0 10))] (by rfl) rfl rfl (by (try simp only [List.map_toArray, List.map_cons, List.map_nil]); first | done | rfl | (simp only [List.length_drop, List.length_take]; rfl)) ?_); (with_reducible refine (ih k (by omega) (wrap64 (Int.tdiv a0 10)) t306 _ A6.out).mono ?_); (rintro e w12 ⟨rfl, hb⟩); (refine ⟨_, rfl, ?_⟩); (have n0_ := qM (Kd.R_below (by (with_reducible repeat (first | apply Kd.R_alloc | apply Kd.R_drewN | apply Kd.R_drew)); exact HO309.out) hb)); (have n1_ := qM (qP (by repeat (first | (with_reducible first | exact HB.out | apply qA | apply qN | apply qD) | exact HB.out)) hb)); clear HO309 HB; (have HO309 := n0_); (have HB := n1_); clear n0_ n1_; ((try clear hb)); ((try clear hb2)); ((try clear hk)); ((try clear hi)); (refine hK.out _ _ trivial (fun hHeld => ?_)); clear hK K; (refine norm_ (a' := ?_) ?_ ?_); rotate_left; ((show Act.put _ (some 12) _ = _; simp only [Act.put, List.setIfInBounds_toArray, List.set_cons_zero, List.set_cons_succ, i64_w, i32_w]; rfl)); (exact norm_ (by simp only [putAll, Act.put, List.setIfInBounds_toArray, List.set_cons_zero, List.set_cons_succ]) (hCont (v308) _ ⟨(by (with_reducible repeat (first | apply Kd.R_alloc | apply Kd.R_drewN | apply Kd.R_drew)); exact HO309.out), (by repeat (first | (with_reducible first | exact HB.out | apply qA | apply qN | apply qD) | exact HB.out))⟩))
   (rintro v308 w13 ⟨h0_, h1_⟩); (have n0_ : Aside0 (Kd.R (Kd.int .u8) 5 w13 w.heap.size (fun _ => True) v308 y307) := ⟨h0_⟩); (have n1_ : Aside0 (Below w.heap.size w w13) := ⟨h1_⟩); clear HB h0_ h1_; (have HO309 := n0_); (have HB := n1_); clear n0_ n1_; (have hHeld := trivial); (refine norm_ (a' := ?_) ?_ ?_); rotate_left; ((simp only [putAll, Act.put, List.setIfInBounds_toArray, List.set_cons_zero, List.set_cons_succ]; rfl)); (refine pure_ (i := 9) (N := some 19) (v := ?_) (a' := ?_) #[true, true, true, true, true, true, true, true, true, true, false] rfl rfl (any_of HT_.out (by kernel_rfl)) (fun _ _ _ h => h) (Or.inl ⟨by rfl, ?_⟩) ?_ ?_); rotate_left; ((intro w'; go_simp; with_reducible rfl)); rotate_left; ((simp only [Act.put, List.setIfInBounds_toArray, List.set_cons_zero, List.set_cons_succ, i64_w, i32_w]; rfl)); (refine pure_ (i := 10) (N := some 2) (v := ?_) (a' := ?_) #[true, true, true, true, true, true, true, true, true, true, true] rfl rfl (any_of HT_.out (by kernel_rfl)) (fun _ _ _ h => h) (Or.inl ⟨by rfl, ?_⟩) ?_ ?_); rotate_left; ((intro w'; go_simp; with_reducible rfl)); rotate_left; ((simp only [Act.put, List.setIfInBounds_toArray, List.set_cons_zero, List.set_cons_succ, i64_w, i32_w]; rfl)); (refine done_ (done_of HT_.out (by kernel_rfl)) ?_); (try go_wp2); (go_ret); (exact ⟨by first | rfl | (simp [errW_none, errW_some] <;> rfl) | (simp [*, errW_none, errW_some] <;> rfl), by repeat (first | (with_reducible first | exact HB.out | apply qA | apply qN | apply qD) | exact HB.out)⟩)
  ·rw [if_neg c7] at H
   exact absurd H (by simp)
mutual
def arboristref15_Show.l0 : Nat → ByteArray → Int → List ByteArray → List ByteArray → List Int → List (S43) → List (S46) → Option (ByteArray)
 | 0, _, _, _, _, _, _, _ => none
 | k + 1, x3, x4, x311000, x311001, x311002, x311003, x311004 => if x4 < (x311003.length : Int) then (if 0 ≤ x4 then (if ((rd_T43 x311003 x4).f0) ≥ 0 then (arboristref15_Show.j1 k x3 x4 (⟨#[63]⟩ : ByteArray) (decide (((rd_T43 x311003 x4).f0) < (x311001.length : Int))) x311000 x311001 x311002 x311003 x311004 ((rd_T43 x311003 x4).f0) ((rd_T43 x311003 x4).f1) ((rd_T43 x311003 x4).f2) ((rd_T43 x311003 x4).f3) ((rd_T43 x311003 x4).f4)) else (arboristref15_Show.j1 k x3 x4 (⟨#[63]⟩ : ByteArray) false x311000 x311001 x311002 x311003 x311004 ((rd_T43 x311003 x4).f0) ((rd_T43 x311003 x4).f1) ((rd_T43 x311003 x4).f2) ((rd_T43 x311003 x4).f3) ((rd_T43 x311003 x4).f4))) else (none)) else (some x3)
def arboristref15_Show.j1 : Nat → ByteArray → Int → ByteArray → Bool → List ByteArray → List ByteArray → List Int → List (S43) → List (S46) → Int → List Int → List ByteArray → ByteArray → Int → Option (ByteArray)
 | 0, _, _, _, _, _, _, _, _, _, _, _, _, _, _ => none
 | k + 1, x3, x4, x6, x30, x311000, x311001, x311002, x311003, x311004, x313000, x313001, x313002, x313003, x313004 => if x30 = true then (if 0 ≤ x313000 then (if x313000 < (x311001.length : Int) then (arboristref15_Show.j2 k x3 x4 (rdOf ByteArray.empty x311001 x313000) x311000 x311001 x311002 x311003 x311004 x313000 x313001 x313002 x313003 x313004) else (none)) else (none)) else (arboristref15_Show.j2 k x3 x4 x6 x311000 x311001 x311002 x311003 x311004 x313000 x313001 x313002 x313003 x313004)
def arboristref15_Show.j2 : Nat → ByteArray → Int → ByteArray → List ByteArray → List ByteArray → List Int → List (S43) → List (S46) → Int → List Int → List ByteArray → ByteArray → Int → Option (ByteArray)
 | 0, _, _, _, _, _, _, _, _, _, _, _, _, _ => none
 | k + 1, x3, x4, x6, x311000, x311001, x311002, x311003, x311004, x313000, x313001, x313002, x313003, x313004 => if x3.size + x6.size ≤ 9223372036854775807 then (if (x3 ++ x6).size + 2 ≤ 9223372036854775807 then (arboristref15_Show.l1 k ((x3 ++ x6) ++ (⟨#[32, 61]⟩ : ByteArray)) x4 0 x311000 x311001 x311002 x311003 x311004 x313000 x313001 x313002 x313003 x313004) else (none)) else (none)
def arboristref15_Show.l1 : Nat → ByteArray → Int → Int → List ByteArray → List ByteArray → List Int → List (S43) → List (S46) → Int → List Int → List ByteArray → ByteArray → Int → Option (ByteArray)
 | 0, _, _, _, _, _, _, _, _, _, _, _, _, _ => none
 | k + 1, x3, x4, x7, x311000, x311001, x311002, x311003, x311004, x313000, x313001, x313002, x313003, x313004 => if x7 < (x313001.length : Int) then (if x3.size + 1 ≤ 9223372036854775807 then (if 0 ≤ x7 then ((arboristref15_Sym.f x311000 x311001 x311002 x311003 x311004 (rd x313001 x7)).bind fun t315 => (if (x3 ++ (⟨#[32]⟩ : ByteArray)).size + t315.size ≤ 9223372036854775807 then (arboristref15_Show.l1 k ((x3 ++ (⟨#[32]⟩ : ByteArray)) ++ t315) x4 (wrap64 (x7 + 1)) x311000 x311001 x311002 x311003 x311004 x313000 x313001 x313002 x313003 x313004) else (none))) else (none)) else (none)) else (if x313003.toList = ([] : List UInt8) then (if x313004 > 0 then (if x3.size + 2 ≤ 9223372036854775807 then ((arboristref15_digits.f k x313004).bind fun t316 => (if (x3 ++ (⟨#[32, 37]⟩ : ByteArray)).size + t316.size ≤ 9223372036854775807 then (if ((x3 ++ (⟨#[32, 37]⟩ : ByteArray)) ++ t316).size + 1 ≤ 9223372036854775807 then (arboristref15_Show.l0 k (((x3 ++ (⟨#[32, 37]⟩ : ByteArray)) ++ t316) ++ (⟨#[10]⟩ : ByteArray)) (wrap64 (x4 + 1)) x311000 x311001 x311002 x311003 x311004) else (none)) else (none))) else (none)) else (if x3.size + 1 ≤ 9223372036854775807 then (arboristref15_Show.l0 k (x3 ++ (⟨#[10]⟩ : ByteArray)) (wrap64 (x4 + 1)) x311000 x311001 x311002 x311003 x311004) else (none))) else (if x3.size + 2 ≤ 9223372036854775807 then (if (x3 ++ (⟨#[32, 35]⟩ : ByteArray)).size + x313003.size ≤ 9223372036854775807 then (if x313004 > 0 then (if ((x3 ++ (⟨#[32, 35]⟩ : ByteArray)) ++ x313003).size + 2 ≤ 9223372036854775807 then ((arboristref15_digits.f k x313004).bind fun t317 => (if (((x3 ++ (⟨#[32, 35]⟩ : ByteArray)) ++ x313003) ++ (⟨#[32, 37]⟩ : ByteArray)).size + t317.size ≤ 9223372036854775807 then (if ((((x3 ++ (⟨#[32, 35]⟩ : ByteArray)) ++ x313003) ++ (⟨#[32, 37]⟩ : ByteArray)) ++ t317).size + 1 ≤ 9223372036854775807 then (arboristref15_Show.l0 k (((((x3 ++ (⟨#[32, 35]⟩ : ByteArray)) ++ x313003) ++ (⟨#[32, 37]⟩ : ByteArray)) ++ t317) ++ (⟨#[10]⟩ : ByteArray)) (wrap64 (x4 + 1)) x311000 x311001 x311002 x311003 x311004) else (none)) else (none))) else (none)) else (if ((x3 ++ (⟨#[32, 35]⟩ : ByteArray)) ++ x313003).size + 1 ≤ 9223372036854775807 then (arboristref15_Show.l0 k (((x3 ++ (⟨#[32, 35]⟩ : ByteArray)) ++ x313003) ++ (⟨#[10]⟩ : ByteArray)) (wrap64 (x4 + 1)) x311000 x311001 x311002 x311003 x311004) else (none))) else (none)) else (none)))
end
def arboristref15_Show.f (k : Nat) (l0_0 : List ByteArray) (l0_1 : List ByteArray) (l0_2 : List Int) (l0_3 : List (S43)) (l0_4 : List (S46)) : Option (ByteArray) := arboristref15_Show.l0 k (⟨#[]⟩ : ByteArray) 0 l0_0 l0_1 l0_2 l0_3 l0_4
theorem arboristref15_Show.mono_l : ∀ k, (∀ y0 y1 y2 y3 y4 y5 y6, LeO (arboristref15_Show.l0 k y0 y1 y2 y3 y4 y5 y6) (arboristref15_Show.l0 (k + 1) y0 y1 y2 y3 y4 y5 y6)) ∧ (∀ y0 y1 y2 y3 y4 y5 y6 y7 y8 y9 y10 y11 y12 y13, LeO (arboristref15_Show.j1 k y0 y1 y2 y3 y4 y5 y6 y7 y8 y9 y10 y11 y12 y13) (arboristref15_Show.j1 (k + 1) y0 y1 y2 y3 y4 y5 y6 y7 y8 y9 y10 y11 y12 y13)) ∧ (∀ y0 y1 y2 y3 y4 y5 y6 y7 y8 y9 y10 y11 y12, LeO (arboristref15_Show.j2 k y0 y1 y2 y3 y4 y5 y6 y7 y8 y9 y10 y11 y12) (arboristref15_Show.j2 (k + 1) y0 y1 y2 y3 y4 y5 y6 y7 y8 y9 y10 y11 y12)) ∧ (∀ y0 y1 y2 y3 y4 y5 y6 y7 y8 y9 y10 y11 y12, LeO (arboristref15_Show.l1 k y0 y1 y2 y3 y4 y5 y6 y7 y8 y9 y10 y11 y12) (arboristref15_Show.l1 (k + 1) y0 y1 y2 y3 y4 y5 y6 y7 y8 y9 y10 y11 y12))
 | 0 => ⟨fun _ _ _ _ _ _ _ r h => by simp [arboristref15_Show.l0] at h, fun _ _ _ _ _ _ _ _ _ _ _ _ _ _ r h => by simp [arboristref15_Show.j1] at h, fun _ _ _ _ _ _ _ _ _ _ _ _ _ r h => by simp [arboristref15_Show.j2] at h, fun _ _ _ _ _ _ _ _ _ _ _ _ _ r h => by simp [arboristref15_Show.l1] at h⟩
 | k + 1 => by
  (obtain ⟨ih0, ih1, ih2, ih3⟩ := arboristref15_Show.mono_l k); (refine ⟨?_, ?_, ?_, ?_⟩)
  ·intro y0 y1 y2 y3 y4 y5 y6
   unfold arboristref15_Show.l0
   repeat' first
   | (with_reducible exact ih0 _ _ _ _ _ _ _)
   | (with_reducible exact ih1 _ _ _ _ _ _ _ _ _ _ _ _ _ _)
   | (with_reducible exact ih2 _ _ _ _ _ _ _ _ _ _ _ _ _)
   | (with_reducible exact ih3 _ _ _ _ _ _ _ _ _ _ _ _ _)
   | (with_reducible exact arboristref15_digits.mono _ _)
   | (with_reducible exact LeO.refl _)
   | (with_reducible exact LeO.none _)
   | (with_reducible refine LeO.ite ?_ ?_)
   | (with_reducible refine LeO.bind ?_ (fun _ => ?_))
   | exact ih0 _ _ _ _ _ _ _
   | exact ih1 _ _ _ _ _ _ _ _ _ _ _ _ _ _
   | exact ih2 _ _ _ _ _ _ _ _ _ _ _ _ _
   | exact ih3 _ _ _ _ _ _ _ _ _ _ _ _ _
   | exact arboristref15_digits.mono _ _
   | exact LeO.none _
   | refine LeO.ite ?_ ?_
   | refine LeO.bind ?_ (fun _ => ?_)
  ·intro y0 y1 y2 y3 y4 y5 y6 y7 y8 y9 y10 y11 y12 y13
   unfold arboristref15_Show.j1
   repeat' first
   | (with_reducible exact ih0 _ _ _ _ _ _ _)
   | (with_reducible exact ih1 _ _ _ _ _ _ _ _ _ _ _ _ _ _)
   | (with_reducible exact ih2 _ _ _ _ _ _ _ _ _ _ _ _ _)
   | (with_reducible exact ih3 _ _ _ _ _ _ _ _ _ _ _ _ _)
   | (with_reducible exact arboristref15_digits.mono _ _)
   | (with_reducible exact LeO.refl _)
   | (with_reducible exact LeO.none _)
   | (with_reducible refine LeO.ite ?_ ?_)
   | (with_reducible refine LeO.bind ?_ (fun _ => ?_))
   | exact ih0 _ _ _ _ _ _ _
   | exact ih1 _ _ _ _ _ _ _ _ _ _ _ _ _ _
   | exact ih2 _ _ _ _ _ _ _ _ _ _ _ _ _
   | exact ih3 _ _ _ _ _ _ _ _ _ _ _ _ _
   | exact arboristref15_digits.mono _ _
   | exact LeO.none _
   | refine LeO.ite ?_ ?_
   | refine LeO.bind ?_ (fun _ => ?_)
  ·intro y0 y1 y2 y3 y4 y5 y6 y7 y8 y9 y10 y11 y12
   unfold arboristref15_Show.j2
   repeat' first
   | (with_reducible exact ih0 _ _ _ _ _ _ _)
   | (with_reducible exact ih1 _ _ _ _ _ _ _ _ _ _ _ _ _ _)
   | (with_reducible exact ih2 _ _ _ _ _ _ _ _ _ _ _ _ _)
   | (with_reducible exact ih3 _ _ _ _ _ _ _ _ _ _ _ _ _)
   | (with_reducible exact arboristref15_digits.mono _ _)
   | (with_reducible exact LeO.refl _)
   | (with_reducible exact LeO.none _)
   | (with_reducible refine LeO.ite ?_ ?_)
   | (with_reducible refine LeO.bind ?_ (fun _ => ?_))
   | exact ih0 _ _ _ _ _ _ _
   | exact ih1 _ _ _ _ _ _ _ _ _ _ _ _ _ _
   | exact ih2 _ _ _ _ _ _ _ _ _ _ _ _ _
   | exact ih3 _ _ _ _ _ _ _ _ _ _ _ _ _
   | exact arboristref15_digits.mono _ _
   | exact LeO.none _
   | refine LeO.ite ?_ ?_
   | refine LeO.bind ?_ (fun _ => ?_)
  ·intro y0 y1 y2 y3 y4 y5 y6 y7 y8 y9 y10 y11 y12
   unfold arboristref15_Show.l1
   repeat' first
   | (with_reducible exact ih0 _ _ _ _ _ _ _)
   | (with_reducible exact ih1 _ _ _ _ _ _ _ _ _ _ _ _ _ _)
   | (with_reducible exact ih2 _ _ _ _ _ _ _ _ _ _ _ _ _)
   | (with_reducible exact ih3 _ _ _ _ _ _ _ _ _ _ _ _ _)
   | (with_reducible exact arboristref15_digits.mono _ _)
   | (with_reducible exact LeO.refl _)
   | (with_reducible exact LeO.none _)
   | (with_reducible refine LeO.ite ?_ ?_)
   | (with_reducible refine LeO.bind ?_ (fun _ => ?_))
   | exact ih0 _ _ _ _ _ _ _
   | exact ih1 _ _ _ _ _ _ _ _ _ _ _ _ _ _
   | exact ih2 _ _ _ _ _ _ _ _ _ _ _ _ _
   | exact ih3 _ _ _ _ _ _ _ _ _ _ _ _ _
   | exact arboristref15_digits.mono _ _
   | exact LeO.none _
   | refine LeO.ite ?_ ?_
   | refine LeO.bind ?_ (fun _ => ?_)
theorem arboristref15_Show.mono : ∀ a0 a1 a2 a3 a4 k, LeO (arboristref15_Show.f k a0 a1 a2 a3 a4) (arboristref15_Show.f (k + 1) a0 a1 a2 a3 a4) := by
 (intro a0 a1 a2 a3 a4 k); (obtain ⟨ih0, ih1, ih2, ih3⟩ := arboristref15_Show.mono_l k); (unfold arboristref15_Show.f)
 repeat' first
   | (with_reducible exact ih0 _ _ _ _ _ _ _)
   | (with_reducible exact ih1 _ _ _ _ _ _ _ _ _ _ _ _ _ _)
   | (with_reducible exact ih2 _ _ _ _ _ _ _ _ _ _ _ _ _)
   | (with_reducible exact ih3 _ _ _ _ _ _ _ _ _ _ _ _ _)
   | (with_reducible exact arboristref15_digits.mono _ _)
   | (with_reducible exact LeO.refl _)
   | (with_reducible exact LeO.none _)
   | (with_reducible refine LeO.ite ?_ ?_)
   | (with_reducible refine LeO.bind ?_ (fun _ => ?_))
   | exact ih0 _ _ _ _ _ _ _
   | exact ih1 _ _ _ _ _ _ _ _ _ _ _ _ _ _
   | exact ih2 _ _ _ _ _ _ _ _ _ _ _ _ _
   | exact ih3 _ _ _ _ _ _ _ _ _ _ _ _ _
   | exact arboristref15_digits.mono _ _
   | exact LeO.none _
   | refine LeO.ite ?_ ?_
   | refine LeO.bind ?_ (fun _ => ?_)
def arboristref15_Show.T13 : Bool × List (List Nat × List Nat) := (true, [([], []), ([0], [0]), ([], []), ([], []), ([3], [3]), ([], []), ([4, 5], [4, 5]), ([6], [6]), ([2, 7], [2, 7]), ([1, 8], [1, 8]), ([9, 8, 0, 1, 2, 3, 4, 5, 6, 7, 8, 9], [0, 9])])
def arboristref15_Show.B13 : List Nat := [0, 1, 0, 0, 8, 0, 56, 120, 252, 511, 1023]
theorem arboristref15_Show.tab13 : rtab .any (opsOf Tryd.f19 13) = arboristref15_Show.T13 := by kernel_rfl
theorem arboristref15_Show.bits13 : waitsOk arboristref15_Show.T13.2 arboristref15_Show.B13 = true := by kernel_rfl
set_option maxHeartbeats 8000000 in
set_option maxRecDepth 100000 in
theorem arboristref15_Show.calls (k : Nat) (A0_0 : Option Addr) (c0_0 : Nat) (l0_0 : List ByteArray) (A0_1 : Option Addr) (c0_1 : Nat) (l0_1 : List ByteArray) (A0_2 : Option Addr) (c0_2 : Nat) (l0_2 : List Int) (A0_3 : Option Addr) (c0_3 : Nat) (l0_3 : List (S43)) (A0_4 : Option Addr) (c0_4 : Nat) (l0_4 : List (S46)) (r : ByteArray) (w : World) (hr0_0 : Kd.C Kd.string w A0_0 l0_0.length l0_0) (hc0_0 : l0_0.length ≤ c0_0) (hr0_1 : Kd.C Kd.string w A0_1 l0_1.length l0_1) (hc0_1 : l0_1.length ≤ c0_1) (hr0_2 : Kd.C (Kd.int .i64) w A0_2 l0_2.length l0_2) (hc0_2 : l0_2.length ≤ c0_2) (hr0_3 : Kd.C k43 w A0_3 l0_3.length l0_3) (hc0_3 : l0_3.length ≤ c0_3) (hr0_4 : Kd.C k46 w A0_4 l0_4.length l0_4) (hc0_4 : l0_4.length ≤ c0_4) (h : arboristref15_Show.f k l0_0 l0_1 l0_2 l0_3 l0_4 = some r) :
  Calls Tryd.prog 19 #[.agg #[.slice A0_0 l0_0.length c0_0, .slice A0_1 l0_1.length c0_1, .slice A0_2 l0_2.length c0_2, .slice A0_3 l0_3.length c0_3, .slice A0_4 l0_4.length c0_4]] w fun e w' => e = .returned (.string r) ∧ Below w.heap.size w w' := by
 (have hu27 := Tryd.underlying27); (have hu43 := Tryd.underlying43); (have HR0_0 := qM hr0_0); (have HC0_0 := qM hc0_0); clear hr0_0 hc0_0; (have HR0_1 := qM hr0_1); (have HC0_1 := qM hc0_1); clear hr0_1 hc0_1; (have HR0_2 := qM hr0_2); (have HC0_2 := qM hc0_2); clear hr0_2 hc0_2; (have HR0_3 := qM hr0_3); (have HC0_3 := qM hc0_3); clear hr0_3 hc0_3; (have HR0_4 := qM hr0_4); (have HC0_4 := qM hc0_4); clear hr0_4 hc0_4; (have HB := qM (Below.refl w.heap.size w)); (have H : (arboristref15_Show.l0 k (⟨#[]⟩ : ByteArray) 0 l0_0 l0_1 l0_2 l0_3 l0_4) = some r := h); clear h; (have H' := qM H); clear H; (go_enter Tryd.func19, Tryd.ntmps19)
 go_wp2_with (first | ((with_reducible refine gate_dst (N := 1) rfl ?_); (try (refine gate_guard (by rfl) ?_; dsimp only)); refine box_event ?hg (N := 1) ?hd (cs := #[.slice A0_0 l0_0.length c0_0, .slice A0_1 l0_1.length c0_1, .slice A0_2 l0_2.length c0_2, .slice A0_3 l0_3.length c0_3, .slice A0_4 l0_4.length c0_4]) (t := 27) ?hr ?_; (case hd => rfl); (case hg => rfl); (case hr => first | (go_simp; done) | (go_simp; rfl)); intro gb310 hg w2 hbox hb; have n0_ := qM (qP (by repeat (first | (with_reducible first | exact HB.out | apply qA | apply qN | apply qD) | exact HB.out)) hb); have n1_ := qM (hbox); have n2_ := qM ((by rw [hg]; exact (qZ (by repeat (first | (with_reducible first | exact HB.out | apply qA | apply qN | apply qD) | exact HB.out))) : w.heap.size ≤ gb310)); have n3_ := qM ((by rw [hg]; exact (qZ (by repeat (first | (with_reducible first | exact HB.out | apply qA | apply qN | apply qD) | exact HB.out))) : w.heap.size ≤ gb310)); clear HB; have HB := n0_; have BK310 := n1_; have GW310 := n2_; have GE310 := n3_; clear n0_ n1_ n2_ n3_; clear hb hbox hg))
 go_loopg [3, 4] k (fun kq v3 v4 w' => ∃ (x3_1 : ByteArray) (x4_1 : Int), v3 = .string x3_1 ∧ v4 = .int .i64 x4_1 ∧ Aside0 (arboristref15_Show.l0 kq x3_1 x4_1 l0_0 l0_1 l0_2 l0_3 l0_4 = some r) ∧ Aside0 (kq ≤ k) ∧ Aside0 (w'.heap[gb310]? = some (.cells #[(.slice A0_0 l0_0.length c0_0), (.slice A0_1 l0_1.length c0_1), (.slice A0_2 l0_2.length c0_2), (.slice A0_3 l0_3.length c0_3), (.slice A0_4 l0_4.length c0_4)] 27 (0, 0))) ∧ Aside0 (Below w.heap.size w w'))
 case atStart => exact ⟨((⟨#[]⟩ : ByteArray)), (0), (by first | rfl | (simp; done) | (simp [*]; done)), (by first | rfl | (simp; done) | (simp [*]; done)), H', ⟨Nat.le_refl _⟩, ⟨by (with_reducible repeat (first | refine qn ?_ _ | refine qd ?_ | refine qa ?_ _)); exact BK310.out⟩, ⟨by repeat (first | (with_reducible first | exact HB.out | apply qA | apply qN | apply qD | refine qS ?_ GE310.out) | exact HB.out)⟩⟩
 case round =>
  (clear H'); (try clear c1); (try clear p2); (obtain ⟨x3_1, x4_1, rfl, rfl, HA, HK1, BK310, HB⟩ := hrel)
  cases gk with
  | zero => exact absurd HA.out (by simp [arboristref15_Show.l0])
  | succ k1 =>
   (have H := HA.out); clear HA; (simp only [arboristref15_Show.l0] at H); (by_cases c3 : x4_1 < (l0_3.length : Int))
   ·rw [if_pos c3] at H
    (have c3b0 : decide (x4_1 < (l0_3.length : Int)) = true := decide_eq_true c3); clear c3; (by_cases c4 : 0 ≤ x4_1)
    ·rw [if_pos c4] at H
     (have c4b0 : decide (0 ≤ x4_1) = true := decide_eq_true c4); clear c4; (have HC5 := qM H); clear H; (obtain ⟨hcz6_0, hcz6_1, hcz6_2, hcz6_3, hcz6_4, hfz6_0, hfz6_1, hfz6_2, hfz6_3, hfz6_4⟩ := bx5 BK310.out); (have p311 : 0 ≤ (x4_1 : Int) := qo (by first | (with_reducible assumption) | assumption)); (have q311 : x4_1 < (l0_3.length : Int) := qo (by first | (with_reducible assumption) | assumption)); (obtain ⟨ad311, A311_1, c311_1, A311_2, c311_2, e311, hx311_0, hx311_1, hx311_2, hx311_3, hx311_4, hl311_1, hi311_1, hl311_2, hi311_2⟩ := at_T43 HR0_3.out x4_1 p311 q311)
     cases e311
     (replace hx311_0 := (HB.out.cell (qB w _ hx311_0)).trans hx311_0); (replace hx311_1 := (HB.out.cell (qB w _ hx311_1)).trans hx311_1); (replace hx311_2 := (HB.out.cell (qB w _ hx311_2)).trans hx311_2); (replace hx311_3 := (HB.out.cell (qB w _ hx311_3)).trans hx311_3); (replace hx311_4 := (HB.out.cell (qB w _ hx311_4)).trans hx311_4); (have HR311_1 := qM hi311_1); (have HC311_1 := qM hl311_1); clear hi311_1 hl311_1; (have HR311_2 := qM hi311_2); (have HC311_2 := qM hl311_2); clear hi311_2 hl311_2; (replace p311 := eq_true p311); (replace q311 := eq_true q311)
     go_upto_region 7 with (first | ((with_reducible refine gate_dst (N := 5) rfl ?_); (try (refine gate_guard (by rfl) ?_; dsimp only)); refine box_event ?hg (N := 5) ?hd (cs := #[.int .i64 0, .slice none 0 0, .slice none 0 0, .string (⟨#[]⟩ : ByteArray), .int .i64 0]) (t := 43) ?hr ?_; (case hd => rfl); (case hg => rfl); (case hr => first | (go_simp; done) | (go_simp; rfl)); intro gb312 hg w7 hbox hb; have n0_ := qM (qb (g := gb310) (o := .cells #[.slice A0_0 l0_0.length c0_0, .slice A0_1 l0_1.length c0_1, .slice A0_2 l0_2.length c0_2, .slice (some ad311) l0_3.length c0_3, .slice A0_4 l0_4.length c0_4] 27 (0, 0)) (by (with_reducible repeat (first | refine qn ?_ _ | refine qd ?_ | refine qa ?_ _)); exact BK310.out) hb); have n1_ := qM (qP (by repeat (first | (with_reducible first | exact HB.out | apply qA | apply qN | apply qD | refine qS ?_ GE310.out) | exact HB.out)) hb); have n2_ := qM (hbox); have n3_ := qM ((by rw [hg]; exact (qZ (by repeat (first | (with_reducible first | exact HB.out | apply qA | apply qN | apply qD | refine qS ?_ GE310.out) | exact HB.out))) : w.heap.size ≤ gb312)); have n4_ := qM ((by rw [hg]; exact (qZ (by repeat (first | (with_reducible first | exact HB.out | apply qA | apply qN | apply qD | refine qS ?_ GE310.out) | exact HB.out))) : w.heap.size ≤ gb312)); have n5_ := qM ((by rw [hg]; exact Nat.ne_of_lt (ql (g := gb310) (o := .cells #[.slice A0_0 l0_0.length c0_0, .slice A0_1 l0_1.length c0_1, .slice A0_2 l0_2.length c0_2, .slice (some ad311) l0_3.length c0_3, .slice A0_4 l0_4.length c0_4] 27 (0, 0)) (by (with_reducible repeat (first | refine qn ?_ _ | refine qd ?_ | refine qa ?_ _)); exact BK310.out)) : gb310 ≠ gb312)); have n6_ := qM ((by rw [hg]; exact Nat.ne_of_gt (ql (g := gb310) (o := .cells #[.slice A0_0 l0_0.length c0_0, .slice A0_1 l0_1.length c0_1, .slice A0_2 l0_2.length c0_2, .slice (some ad311) l0_3.length c0_3, .slice A0_4 l0_4.length c0_4] 27 (0, 0)) (by (with_reducible repeat (first | refine qn ?_ _ | refine qd ?_ | refine qa ?_ _)); exact BK310.out)) : gb312 ≠ gb310)); clear BK310; clear HB; have BK310 := n0_; have HB := n1_; have BK312 := n2_; have GW312 := n3_; have GE312 := n4_; have NB310_312 := n5_; have NB312_310 := n6_; clear n0_ n1_ n2_ n3_ n4_ n5_ n6_; clear hb hbox hg; have hnb8 := NB312_310.out; have hnc8 := NB310_312.out; obtain ⟨hcz9_0, hcz9_1, hcz9_2, hcz9_3, hcz9_4, hfz9_0, hfz9_1, hfz9_2, hfz9_3, hfz9_4⟩ := bx5 BK312.out))
     (try simp only [Act.put, List.setIfInBounds_toArray, List.set_cons_zero, List.set_cons_succ])
     go_cut [30] (fun v30 wc => ∃ (kq : Nat) (x30_4 : Bool), v30 = .bool x30_4 ∧ Aside0 (arboristref15_Show.j1 kq x3_1 x4_1 (⟨#[63]⟩ : ByteArray) x30_4 l0_0 l0_1 l0_2 l0_3 l0_4 ((rd_T43 l0_3 x4_1).f0) ((rd_T43 l0_3 x4_1).f1) ((rd_T43 l0_3 x4_1).f2) ((rd_T43 l0_3 x4_1).f3) ((rd_T43 l0_3 x4_1).f4) = some r) ∧ Aside0 (kq ≤ k1) ∧ Aside0 (wc.heap[gb310]? = some (.cells #[(.slice A0_0 l0_0.length c0_0), (.slice A0_1 l0_1.length c0_1), (.slice A0_2 l0_2.length c0_2), (.slice (some ad311) l0_3.length c0_3), (.slice A0_4 l0_4.length c0_4)] 27 (0, 0))) ∧ Aside0 (wc.heap[gb312]? = some (.cells #[.int .i64 ((rd_T43 l0_3 x4_1).f0), (.slice A311_1 ((rd_T43 l0_3 x4_1).f1).length c311_1), (.slice A311_2 ((rd_T43 l0_3 x4_1).f2).length c311_2), .string ((rd_T43 l0_3 x4_1).f3), .int .i64 ((rd_T43 l0_3 x4_1).f4)] 43 (0, 0))) ∧ Aside0 (Below w.heap.size w wc))
     case first =>
      (have H := HC5.out); clear HC5; (by_cases c10 : ((rd_T43 l0_3 x4_1).f0) ≥ 0)
      ·rw [if_pos c10] at H
       (have c10b0 : decide (0 ≤ ((rd_T43 l0_3 x4_1).f0)) = true := decide_eq_true c10); clear c10; ((first | rw [c10b0] | (simp only [i64_w, i32_w]; rw [c10b0]) | skip)); (have H' := qM H); clear H; (have hnb11 := NB312_310.out); (have hnc11 := NB310_312.out); (obtain ⟨hcz12_0, hcz12_1, hcz12_2, hcz12_3, hcz12_4, hfz12_0, hfz12_1, hfz12_2, hfz12_3, hfz12_4⟩ := bx5 BK312.out); (obtain ⟨hcz13_0, hcz13_1, hcz13_2, hcz13_3, hcz13_4, hfz13_0, hfz13_1, hfz13_2, hfz13_3, hfz13_4⟩ := bx5 BK310.out); go_wp2; go_meet
       case rel => exact ⟨_, (decide (((rd_T43 l0_3 x4_1).f0) < (l0_1.length : Int))), (by first | rfl | (simp; done) | (simp [*]; done)), H', ⟨by have := HK1.out; first | omega | exact Nat.le_refl _⟩, ⟨by (with_reducible repeat (first | refine qn ?_ _ | refine qd ?_ | refine qa ?_ _)); refine qf ?_ NB310_312.out _; (with_reducible repeat (first | refine qn ?_ _ | refine qd ?_ | refine qa ?_ _)); refine qf ?_ NB310_312.out _; (with_reducible repeat (first | refine qn ?_ _ | refine qd ?_ | refine qa ?_ _)); refine qf ?_ NB310_312.out _; (with_reducible repeat (first | refine qn ?_ _ | refine qd ?_ | refine qa ?_ _)); refine qf ?_ NB310_312.out _; (with_reducible repeat (first | refine qn ?_ _ | refine qd ?_ | refine qa ?_ _)); refine qf ?_ NB310_312.out _; (with_reducible repeat (first | refine qn ?_ _ | refine qd ?_ | refine qa ?_ _)); exact BK310.out⟩, ⟨by (with_reducible repeat (first | refine qn ?_ _ | refine qd ?_ | refine qa ?_ _)); refine blk_put (cs := #[.int .i64 ((rd_T43 l0_3 x4_1).f0), .slice A311_1 ((rd_T43 l0_3 x4_1).f1).length c311_1, .slice A311_2 ((rd_T43 l0_3 x4_1).f2).length c311_2, .string ((rd_T43 l0_3 x4_1).f3), .int .i64 0]) ?_ 4 _ rfl; (with_reducible repeat (first | refine qn ?_ _ | refine qd ?_ | refine qa ?_ _)); refine blk_put (cs := #[.int .i64 ((rd_T43 l0_3 x4_1).f0), .slice A311_1 ((rd_T43 l0_3 x4_1).f1).length c311_1, .slice A311_2 ((rd_T43 l0_3 x4_1).f2).length c311_2, .string (⟨#[]⟩ : ByteArray), .int .i64 0]) ?_ 3 _ rfl; (with_reducible repeat (first | refine qn ?_ _ | refine qd ?_ | refine qa ?_ _)); refine blk_put (cs := #[.int .i64 ((rd_T43 l0_3 x4_1).f0), .slice A311_1 ((rd_T43 l0_3 x4_1).f1).length c311_1, .slice none 0 0, .string (⟨#[]⟩ : ByteArray), .int .i64 0]) ?_ 2 _ rfl; (with_reducible repeat (first | refine qn ?_ _ | refine qd ?_ | refine qa ?_ _)); refine blk_put (cs := #[.int .i64 ((rd_T43 l0_3 x4_1).f0), .slice none 0 0, .slice none 0 0, .string (⟨#[]⟩ : ByteArray), .int .i64 0]) ?_ 1 _ rfl; (with_reducible repeat (first | refine qn ?_ _ | refine qd ?_ | refine qa ?_ _)); refine blk_put (cs := #[.int .i64 0, .slice none 0 0, .slice none 0 0, .string (⟨#[]⟩ : ByteArray), .int .i64 0]) ?_ 0 _ rfl; (with_reducible repeat (first | refine qn ?_ _ | refine qd ?_ | refine qa ?_ _)); exact BK312.out⟩, ⟨by repeat (first | (with_reducible first | exact HB.out | apply qA | apply qN | apply qD | refine qS ?_ GE310.out | refine qS ?_ GE312.out) | exact HB.out)⟩⟩
      ·rw [if_neg c10] at H
       (have c10b0 : decide (0 ≤ ((rd_T43 l0_3 x4_1).f0)) = false := decide_eq_false c10); clear c10; ((first | rw [c10b0] | (simp only [i64_w, i32_w]; rw [c10b0]) | skip)); (have H' := qM H); clear H; (have hnb14 := NB312_310.out); (have hnc14 := NB310_312.out); (obtain ⟨hcz15_0, hcz15_1, hcz15_2, hcz15_3, hcz15_4, hfz15_0, hfz15_1, hfz15_2, hfz15_3, hfz15_4⟩ := bx5 BK312.out); go_wp2; go_meet
       case rel => exact ⟨_, (false), (by first | rfl | (simp; done) | (simp [*]; done)), H', ⟨by have := HK1.out; first | omega | exact Nat.le_refl _⟩, ⟨by (with_reducible repeat (first | refine qn ?_ _ | refine qd ?_ | refine qa ?_ _)); refine qf ?_ NB310_312.out _; (with_reducible repeat (first | refine qn ?_ _ | refine qd ?_ | refine qa ?_ _)); refine qf ?_ NB310_312.out _; (with_reducible repeat (first | refine qn ?_ _ | refine qd ?_ | refine qa ?_ _)); refine qf ?_ NB310_312.out _; (with_reducible repeat (first | refine qn ?_ _ | refine qd ?_ | refine qa ?_ _)); refine qf ?_ NB310_312.out _; (with_reducible repeat (first | refine qn ?_ _ | refine qd ?_ | refine qa ?_ _)); refine qf ?_ NB310_312.out _; (with_reducible repeat (first | refine qn ?_ _ | refine qd ?_ | refine qa ?_ _)); exact BK310.out⟩, ⟨by (with_reducible repeat (first | refine qn ?_ _ | refine qd ?_ | refine qa ?_ _)); refine blk_put (cs := #[.int .i64 ((rd_T43 l0_3 x4_1).f0), .slice A311_1 ((rd_T43 l0_3 x4_1).f1).length c311_1, .slice A311_2 ((rd_T43 l0_3 x4_1).f2).length c311_2, .string ((rd_T43 l0_3 x4_1).f3), .int .i64 0]) ?_ 4 _ rfl; (with_reducible repeat (first | refine qn ?_ _ | refine qd ?_ | refine qa ?_ _)); refine blk_put (cs := #[.int .i64 ((rd_T43 l0_3 x4_1).f0), .slice A311_1 ((rd_T43 l0_3 x4_1).f1).length c311_1, .slice A311_2 ((rd_T43 l0_3 x4_1).f2).length c311_2, .string (⟨#[]⟩ : ByteArray), .int .i64 0]) ?_ 3 _ rfl; (with_reducible repeat (first | refine qn ?_ _ | refine qd ?_ | refine qa ?_ _)); refine blk_put (cs := #[.int .i64 ((rd_T43 l0_3 x4_1).f0), .slice A311_1 ((rd_T43 l0_3 x4_1).f1).length c311_1, .slice none 0 0, .string (⟨#[]⟩ : ByteArray), .int .i64 0]) ?_ 2 _ rfl; (with_reducible repeat (first | refine qn ?_ _ | refine qd ?_ | refine qa ?_ _)); refine blk_put (cs := #[.int .i64 ((rd_T43 l0_3 x4_1).f0), .slice none 0 0, .slice none 0 0, .string (⟨#[]⟩ : ByteArray), .int .i64 0]) ?_ 1 _ rfl; (with_reducible repeat (first | refine qn ?_ _ | refine qd ?_ | refine qa ?_ _)); refine blk_put (cs := #[.int .i64 0, .slice none 0 0, .slice none 0 0, .string (⟨#[]⟩ : ByteArray), .int .i64 0]) ?_ 0 _ rfl; (with_reducible repeat (first | refine qn ?_ _ | refine qd ?_ | refine qa ?_ _)); exact BK312.out⟩, ⟨by repeat (first | (with_reducible first | exact HB.out | apply qA | apply qN | apply qD | refine qS ?_ GE310.out | refine qS ?_ GE312.out) | exact HB.out)⟩⟩
     case rest =>
      clear HC5; (try clear c1); (try clear p2); (try clear c3); (try clear c3b0); (try clear p3); (try clear q3); (try clear hx3); (try clear c4); (try clear c4b0); (try clear c8); (try clear c10); (try clear c10b0); (try clear c11); (try clear c14); (try clear hcz12_0 hcz12_1 hcz12_2 hcz12_3 hcz12_4); (try clear hcz13_0 hcz13_1 hcz13_2 hcz13_3 hcz13_4); (try clear hcz15_0 hcz15_1 hcz15_2 hcz15_3 hcz15_4); (try clear hcz6_0 hcz6_1 hcz6_2 hcz6_3 hcz6_4); (try clear hcz9_0 hcz9_1 hcz9_2 hcz9_3 hcz9_4); (try clear hfz12_0 hfz12_1 hfz12_2 hfz12_3 hfz12_4); (try clear hfz13_0 hfz13_1 hfz13_2 hfz13_3 hfz13_4); (try clear hfz15_0 hfz15_1 hfz15_2 hfz15_3 hfz15_4); (try clear hfz6_0 hfz6_1 hfz6_2 hfz6_3 hfz6_4); (try clear hfz9_0 hfz9_1 hfz9_2 hfz9_3 hfz9_4); (try clear hx311_0 hx311_1 hx311_2 hx311_3 hx311_4); (try clear p2); (try clear p311); (try clear q311); (obtain ⟨kq, x30_4, rfl, HA, HJ4, BK310, BK312, HB⟩ := hcut)
      cases kq with
      | zero => exact absurd HA.out (by simp [arboristref15_Show.j1])
      | succ kj4 =>
       (have H := HA.out); clear HA; (simp only [arboristref15_Show.j1] at H); (have HC16 := qM H); clear H; (go_upto_if 30 with (fail))
       go_cut [6] (fun v6 wc => ∃ (kq : Nat) (x6_15 : ByteArray), v6 = .string x6_15 ∧ Aside0 (arboristref15_Show.j2 kq x3_1 x4_1 x6_15 l0_0 l0_1 l0_2 l0_3 l0_4 ((rd_T43 l0_3 x4_1).f0) ((rd_T43 l0_3 x4_1).f1) ((rd_T43 l0_3 x4_1).f2) ((rd_T43 l0_3 x4_1).f3) ((rd_T43 l0_3 x4_1).f4) = some r) ∧ Aside0 (kq ≤ kj4) ∧ Aside0 (wc.heap[gb310]? = some (.cells #[(.slice A0_0 l0_0.length c0_0), (.slice A0_1 l0_1.length c0_1), (.slice A0_2 l0_2.length c0_2), (.slice (some ad311) l0_3.length c0_3), (.slice A0_4 l0_4.length c0_4)] 27 (0, 0))) ∧ Aside0 (wc.heap[gb312]? = some (.cells #[.int .i64 ((rd_T43 l0_3 x4_1).f0), (.slice A311_1 ((rd_T43 l0_3 x4_1).f1).length c311_1), (.slice A311_2 ((rd_T43 l0_3 x4_1).f2).length c311_2), .string ((rd_T43 l0_3 x4_1).f3), .int .i64 ((rd_T43 l0_3 x4_1).f4)] 43 (0, 0))) ∧ Aside0 (Below w.heap.size w wc))
       case first =>
        (have H := HC16.out); clear HC16; (by_cases c17 : x30_4 = true)
        ·subst c17
         (have H1 : (if 0 ≤ ((rd_T43 l0_3 x4_1).f0) then (if ((rd_T43 l0_3 x4_1).f0) < (l0_1.length : Int) then (arboristref15_Show.j2 kj4 x3_1 x4_1 (rdOf ByteArray.empty l0_1 ((rd_T43 l0_3 x4_1).f0)) l0_0 l0_1 l0_2 l0_3 l0_4 ((rd_T43 l0_3 x4_1).f0) ((rd_T43 l0_3 x4_1).f1) ((rd_T43 l0_3 x4_1).f2) ((rd_T43 l0_3 x4_1).f3) ((rd_T43 l0_3 x4_1).f4)) else (none)) else (none)) = some r := by rw [if_pos rfl] at H; exact H); clear H; (have H := H1); clear H1; (by_cases c18 : 0 ≤ ((rd_T43 l0_3 x4_1).f0))
         ·rw [if_pos c18] at H
          (have c18b0 : decide (0 ≤ ((rd_T43 l0_3 x4_1).f0)) = true := decide_eq_true c18); clear c18; ((first | rw [c18b0] | (simp only [i64_w, i32_w]; rw [c18b0]) | skip)); (by_cases c19 : ((rd_T43 l0_3 x4_1).f0) < (l0_1.length : Int))
          ·rw [if_pos c19] at H
           (have c19b0 : decide (((rd_T43 l0_3 x4_1).f0) < (l0_1.length : Int)) = true := decide_eq_true c19); clear c19; (have H' := qM H); clear H; (have hnb20 := NB310_312.out); (have hnc20 := NB312_310.out); (obtain ⟨hcz21_0, hcz21_1, hcz21_2, hcz21_3, hcz21_4, hfz21_0, hfz21_1, hfz21_2, hfz21_3, hfz21_4⟩ := bx5 BK310.out); (obtain ⟨hcz22_0, hcz22_1, hcz22_2, hcz22_3, hcz22_4, hfz22_0, hfz22_1, hfz22_2, hfz22_3, hfz22_4⟩ := bx5 BK312.out); (have p313 : 0 ≤ (((rd_T43 l0_3 x4_1).f0) : Int) := qo (by first | (with_reducible assumption) | assumption)); (have q313 : ((rd_T43 l0_3 x4_1).f0) < (l0_1.length : Int) := qo (by first | (with_reducible assumption) | assumption)); (obtain ⟨ad313, e313, hx313_0⟩ := Kd.at_string HR0_1.out ((rd_T43 l0_3 x4_1).f0) p313 q313)
           cases e313
           (replace hx313_0 := (HB.out.cell (qB w _ hx313_0)).trans hx313_0); (replace p313 := eq_true p313); (replace q313 := eq_true q313); go_wp2; go_meet
           case rel => exact ⟨_, (rdOf ByteArray.empty l0_1 ((rd_T43 l0_3 x4_1).f0)), (by first | rfl | (simp; done) | (simp [*]; done)), H', ⟨by have := HK1.out; have := HJ4.out; first | omega | exact Nat.le_refl _⟩, ⟨by (with_reducible repeat (first | refine qn ?_ _ | refine qd ?_ | refine qa ?_ _)); exact BK310.out⟩, ⟨by (with_reducible repeat (first | refine qn ?_ _ | refine qd ?_ | refine qa ?_ _)); exact BK312.out⟩, ⟨by repeat (first | (with_reducible first | exact HB.out | apply qA | apply qN | apply qD | refine qS ?_ GE310.out | refine qS ?_ GE312.out) | exact HB.out)⟩⟩
          ·rw [if_neg c19] at H
           exact absurd H (by simp)
         ·rw [if_neg c18] at H
          exact absurd H (by simp)
        ·replace c17 := Bool.eq_false_iff.mpr c17
         subst c17; (have H1 : (arboristref15_Show.j2 kj4 x3_1 x4_1 (⟨#[63]⟩ : ByteArray) l0_0 l0_1 l0_2 l0_3 l0_4 ((rd_T43 l0_3 x4_1).f0) ((rd_T43 l0_3 x4_1).f1) ((rd_T43 l0_3 x4_1).f2) ((rd_T43 l0_3 x4_1).f3) ((rd_T43 l0_3 x4_1).f4)) = some r := by rw [if_neg (show ¬ (false = true) by decide)] at H; exact H); clear H; (have H := H1); clear H1; (have H' := qM H); clear H; go_wp2; go_meet
         case rel => exact ⟨_, ((⟨#[63]⟩ : ByteArray)), (by first | rfl | (simp; done) | (simp [*]; done)), H', ⟨by have := HK1.out; have := HJ4.out; first | omega | exact Nat.le_refl _⟩, ⟨by (with_reducible repeat (first | refine qn ?_ _ | refine qd ?_ | refine qa ?_ _)); exact BK310.out⟩, ⟨by (with_reducible repeat (first | refine qn ?_ _ | refine qd ?_ | refine qa ?_ _)); exact BK312.out⟩, ⟨by repeat (first | (with_reducible first | exact HB.out | apply qA | apply qN | apply qD | refine qS ?_ GE310.out | refine qS ?_ GE312.out) | exact HB.out)⟩⟩
       case rest =>
        clear HC16; (try clear c1); (try clear c2); (try clear p2); (try clear c3); (try clear c3b0); (try clear p3); (try clear q3); (try clear hx3); (try clear c4); (try clear c4b0); (try clear c8); (try clear c10); (try clear c10b0); (try clear c11); (try clear c14); (try clear c17); (try clear c18); (try clear c18b0); (try clear c19); (try clear c19b0); (try clear c20); (try clear hcz12_0 hcz12_1 hcz12_2 hcz12_3 hcz12_4); (try clear hcz13_0 hcz13_1 hcz13_2 hcz13_3 hcz13_4); (try clear hcz15_0 hcz15_1 hcz15_2 hcz15_3 hcz15_4); (try clear hcz21_0 hcz21_1 hcz21_2 hcz21_3 hcz21_4); (try clear hcz22_0 hcz22_1 hcz22_2 hcz22_3 hcz22_4); (try clear hcz6_0 hcz6_1 hcz6_2 hcz6_3 hcz6_4); (try clear hcz9_0 hcz9_1 hcz9_2 hcz9_3 hcz9_4); (try clear hfz12_0 hfz12_1 hfz12_2 hfz12_3 hfz12_4); (try clear hfz13_0 hfz13_1 hfz13_2 hfz13_3 hfz13_4); (try clear hfz15_0 hfz15_1 hfz15_2 hfz15_3 hfz15_4); (try clear hfz21_0 hfz21_1 hfz21_2 hfz21_3 hfz21_4); (try clear hfz22_0 hfz22_1 hfz22_2 hfz22_3 hfz22_4); (try clear hfz6_0 hfz6_1 hfz6_2 hfz6_3 hfz6_4); (try clear hfz9_0 hfz9_1 hfz9_2 hfz9_3 hfz9_4); (try clear hx311_0 hx311_1 hx311_2 hx311_3 hx311_4); (try clear hx313_0); (try clear p2); (try clear p3); (try clear p311); (try clear p313); (try clear q3); (try clear q311); (try clear q313); (obtain ⟨kq, x6_15, rfl, HA, HJ15, BK310, BK312, HB⟩ := hcut)
        cases kq with
        | zero => exact absurd HA.out (by simp [arboristref15_Show.j2])
        | succ kj15 =>
         (have H := HA.out); clear HA; (simp only [arboristref15_Show.j2] at H); (by_cases c23 : x3_1.size + x6_15.size ≤ 9223372036854775807)
         ·rw [if_pos c23] at H
          (have c23b0 := eq_true c23); (have c23b1 : decide (x3_1.size + x6_15.size ≤ 9223372036854775807) = true := decide_eq_true c23); (try have c23b2 : (9223372036854775807 < x3_1.size + x6_15.size) = False := eq_false (Nat.not_lt.2 c23)); (by_cases c24 : (x3_1 ++ x6_15).size + 2 ≤ 9223372036854775807)
          ·rw [if_pos c24] at H
           (have c24b0 := eq_true c24); (have c24b1 : decide ((x3_1 ++ x6_15).size + 2 ≤ 9223372036854775807) = true := decide_eq_true c24); (try have c24b2 : (9223372036854775807 < (x3_1 ++ x6_15).size + 2) = False := eq_false (Nat.not_lt.2 c24)); (try have c24b3 : (9223372036854775807 < x3_1.size + x6_15.size + 2) = False := eq_false (Nat.not_lt.2 (by have h_ := c24; simp only [ByteArray.size_append] at h_; exact h_))); (have H' := qM H); clear H; go_wp2
           go_loopg [3, 7] kj15 (fun kq v3 v7 w' => ∃ (x3_4 : ByteArray) (x7_4 : Int), v3 = .string x3_4 ∧ v7 = .int .i64 x7_4 ∧ Aside0 (arboristref15_Show.l1 kq x3_4 x4_1 x7_4 l0_0 l0_1 l0_2 l0_3 l0_4 ((rd_T43 l0_3 x4_1).f0) ((rd_T43 l0_3 x4_1).f1) ((rd_T43 l0_3 x4_1).f2) ((rd_T43 l0_3 x4_1).f3) ((rd_T43 l0_3 x4_1).f4) = some r) ∧ Aside0 (kq ≤ kj15) ∧ Aside0 (w'.heap[gb310]? = some (.cells #[(.slice A0_0 l0_0.length c0_0), (.slice A0_1 l0_1.length c0_1), (.slice A0_2 l0_2.length c0_2), (.slice (some ad311) l0_3.length c0_3), (.slice A0_4 l0_4.length c0_4)] 27 (0, 0))) ∧ Aside0 (w'.heap[gb312]? = some (.cells #[.int .i64 ((rd_T43 l0_3 x4_1).f0), (.slice A311_1 ((rd_T43 l0_3 x4_1).f1).length c311_1), (.slice A311_2 ((rd_T43 l0_3 x4_1).f2).length c311_2), .string ((rd_T43 l0_3 x4_1).f3), .int .i64 ((rd_T43 l0_3 x4_1).f4)] 43 (0, 0))) ∧ Aside0 (Below w.heap.size w w'))
           case atStart => exact ⟨((x3_1 ++ x6_15) ++ (⟨#[32, 61]⟩ : ByteArray)), (0), (by first | rfl | (simp; done) | (simp [*]; done)), (by first | rfl | (simp; done) | (simp [*]; done)), H', ⟨Nat.le_refl _⟩, ⟨by (with_reducible repeat (first | refine qn ?_ _ | refine qd ?_ | refine qa ?_ _)); exact BK310.out⟩, ⟨by (with_reducible repeat (first | refine qn ?_ _ | refine qd ?_ | refine qa ?_ _)); exact BK312.out⟩, ⟨by repeat (first | (with_reducible first | exact HB.out | apply qA | apply qN | apply qD | refine qS ?_ GE310.out | refine qS ?_ GE312.out) | exact HB.out)⟩⟩
           case round =>
            (clear H'); (try clear c1); (try clear c2); (try clear p2); (try clear c3); (try clear c3b0); (try clear p3); (try clear q3); (try clear hx3); (try clear c4); (try clear c4b0); (try clear c8); (try clear c10); (try clear c10b0); (try clear c11); (try clear c14); (try clear c17); (try clear c18); (try clear c18b0); (try clear c19); (try clear c19b0); (try clear c20); (try clear c23); (try clear c23b0); (try clear c23b1); (try clear c23b2); (try clear c24); (try clear c24b0); (try clear c24b1); (try clear c24b2); (try clear hcz12_0 hcz12_1 hcz12_2 hcz12_3 hcz12_4); (try clear hcz13_0 hcz13_1 hcz13_2 hcz13_3 hcz13_4); (try clear hcz15_0 hcz15_1 hcz15_2 hcz15_3 hcz15_4); (try clear hcz21_0 hcz21_1 hcz21_2 hcz21_3 hcz21_4); (try clear hcz22_0 hcz22_1 hcz22_2 hcz22_3 hcz22_4); (try clear hcz6_0 hcz6_1 hcz6_2 hcz6_3 hcz6_4); (try clear hcz9_0 hcz9_1 hcz9_2 hcz9_3 hcz9_4); (try clear hfz12_0 hfz12_1 hfz12_2 hfz12_3 hfz12_4); (try clear hfz13_0 hfz13_1 hfz13_2 hfz13_3 hfz13_4); (try clear hfz15_0 hfz15_1 hfz15_2 hfz15_3 hfz15_4); (try clear hfz21_0 hfz21_1 hfz21_2 hfz21_3 hfz21_4); (try clear hfz22_0 hfz22_1 hfz22_2 hfz22_3 hfz22_4); (try clear hfz6_0 hfz6_1 hfz6_2 hfz6_3 hfz6_4); (try clear hfz9_0 hfz9_1 hfz9_2 hfz9_3 hfz9_4); (try clear hx311_0 hx311_1 hx311_2 hx311_3 hx311_4); (try clear hx313_0); (try clear p2); (try clear p3); (try clear p311); (try clear p313); (try clear q3); (try clear q311); (try clear q313); (obtain ⟨x3_4, x7_4, rfl, rfl, HA, HK4, BK310, BK312, HB⟩ := hrel)
            cases gk with
            | zero => exact absurd HA.out (by simp [arboristref15_Show.l1])
            | succ k4 =>
             (have H := HA.out); clear HA; (simp only [arboristref15_Show.l1] at H); (by_cases c25 : x7_4 < (((rd_T43 l0_3 x4_1).f1).length : Int))
             ·rw [if_pos c25] at H
              (have c25b0 : decide (x7_4 < (((rd_T43 l0_3 x4_1).f1).length : Int)) = true := decide_eq_true c25); clear c25; (by_cases c26 : x3_4.size + 1 ≤ 9223372036854775807)
              ·rw [if_pos c26] at H
               (have c26b0 := eq_true c26); (have c26b1 : decide (x3_4.size + 1 ≤ 9223372036854775807) = true := decide_eq_true c26); (try have c26b2 : (9223372036854775807 < x3_4.size + 1) = False := eq_false (Nat.not_lt.2 c26)); (by_cases c27 : 0 ≤ x7_4)
               ·rw [if_pos c27] at H
                (have c27b0 : decide (0 ≤ x7_4) = true := decide_eq_true c27); clear c27; (replace H := Option.bind_eq_some_iff.mp H); (obtain ⟨t315, A280, H⟩ := H); (replace H : (if (x3_4 ++ (⟨#[32]⟩ : ByteArray)).size + t315.size ≤ 9223372036854775807 then (arboristref15_Show.l1 k4 ((x3_4 ++ (⟨#[32]⟩ : ByteArray)) ++ t315) x4_1 (wrap64 (x7_4 + 1)) l0_0 l0_1 l0_2 l0_3 l0_4 ((rd_T43 l0_3 x4_1).f0) ((rd_T43 l0_3 x4_1).f1) ((rd_T43 l0_3 x4_1).f2) ((rd_T43 l0_3 x4_1).f3) ((rd_T43 l0_3 x4_1).f4)) else (none)) = some r := H); (have A28 := qM A280); clear A280; (by_cases c29 : (x3_4 ++ (⟨#[32]⟩ : ByteArray)).size + t315.size ≤ 9223372036854775807)
                ·rw [if_pos c29] at H
                 (have c29b0 := eq_true c29); (have c29b1 : decide ((x3_4 ++ (⟨#[32]⟩ : ByteArray)).size + t315.size ≤ 9223372036854775807) = true := decide_eq_true c29); (try have c29b2 : (9223372036854775807 < (x3_4 ++ (⟨#[32]⟩ : ByteArray)).size + t315.size) = False := eq_false (Nat.not_lt.2 c29)); (try have c29b3 : (9223372036854775807 < x3_4.size + 1 + t315.size) = False := eq_false (Nat.not_lt.2 (by have h_ := c29; simp only [ByteArray.size_append] at h_; exact h_))); (have H' := qM H); clear H; (have hnb30 := NB312_310.out); (have hnc30 := NB310_312.out); (obtain ⟨hcz31_0, hcz31_1, hcz31_2, hcz31_3, hcz31_4, hfz31_0, hfz31_1, hfz31_2, hfz31_3, hfz31_4⟩ := bx5 BK312.out); (try go_wp2); (have n0_ := qM (qd BK310.out)); (have n1_ := qM (qd BK312.out)); (have n2_ := qM (qD HB.out)); clear BK310 BK312 HB; (have BK310 := n0_); (have BK312 := n1_); (have HB := n2_); clear n0_ n1_ n2_; (have p314 : 0 ≤ (x7_4 : Int) := qo (by first | (with_reducible assumption) | assumption)); (have q314 : x7_4 < (((rd_T43 l0_3 x4_1).f1).length : Int) := qo (by first | (with_reducible assumption) | assumption)); (obtain ⟨ad314, e314, hx314_0⟩ := Kd.at_int HR311_1.out x7_4 p314 q314); (have hw314_0 := hx314_0)
                 cases e314
                 (replace hx314_0 := (HB.out.cell (qB w _ hx314_0)).trans hx314_0); (replace p314 := eq_true p314); (replace q314 := eq_true q314)
                 refine start_ (n := 11) (S := fun w' => w'.cell? ⟨gb310, 0, none⟩ = some (.slice A0_0 l0_0.length c0_0) ∧ w'.cell? ⟨gb310, 1, none⟩ = some (.slice A0_1 l0_1.length c0_1) ∧ w'.cell? ⟨gb310, 2, none⟩ = some (.slice A0_2 l0_2.length c0_2) ∧ w'.cell? ⟨gb310, 3, none⟩ = some (.slice (some ad311) l0_3.length c0_3) ∧ w'.cell? ⟨gb310, 4, none⟩ = some (.slice A0_4 l0_4.length c0_4) ∧ w'.cell? ⟨gb312, 0, none⟩ = some (.int .i64 ((rd_T43 l0_3 x4_1).f0)) ∧ w'.cell? ⟨gb312, 1, none⟩ = some (.slice (some ad314) ((rd_T43 l0_3 x4_1).f1).length c311_1) ∧ w'.cell? ⟨gb312, 2, none⟩ = some (.slice A311_2 ((rd_T43 l0_3 x4_1).f2).length c311_2) ∧ w'.cell? ⟨gb312, 3, none⟩ = some (.string ((rd_T43 l0_3 x4_1).f3)) ∧ w'.cell? ⟨gb312, 4, none⟩ = some (.int .i64 ((rd_T43 l0_3 x4_1).f4)) ∧ w'.cell? (ad314.add (x7_4).toNat) = some (.int .i64 (rd ((rd_T43 l0_3 x4_1).f1) x7_4))) (ds := []) #[false, false, false, false, false, false, false, false, false, false, false] (by kernel_rfl) rfl rfl ⟨(blk_cell BK310.out 0).trans rfl, (blk_cell BK310.out 1).trans rfl, (blk_cell BK310.out 2).trans rfl, (blk_cell BK310.out 3).trans rfl, (blk_cell BK310.out 4).trans rfl, (blk_cell BK312.out 0).trans rfl, (blk_cell BK312.out 1).trans rfl, (blk_cell BK312.out 2).trans rfl, (blk_cell BK312.out 3).trans rfl, (blk_cell BK312.out 4).trans rfl, ((HB.out.cell (qB w _ hw314_0)).trans hw314_0)⟩ (fun hHeld => ?_); refine with_tabW arboristref15_Show.tab13 arboristref15_Show.bits13 (fun HT_ HW_ => ?_)
                 (generalize wr.drew = w32 at BK310 BK312 HB hx314_0 hHeld ⊢); (refine pure_ (i := 0) (N := some 48) (v := ?_) (a' := ?_) #[true, false, false, false, false, false, false, false, false, false, false] rfl rfl (any_of HT_.out (by kernel_rfl)) (fun _ _ _ h => h) (Or.inl ⟨by rfl, ?_⟩) ?_ ?_); rotate_left; ((intro w'; go_simp; with_reducible rfl)); rotate_left; ((simp only [Act.put, List.setIfInBounds_toArray, List.set_cons_zero, List.set_cons_succ, i64_w, i32_w]; rfl)); (refine pure_ (i := 1) (N := some 49) (v := ?_) (a' := ?_) #[true, true, false, false, false, false, false, false, false, false, false] rfl rfl (any_of HT_.out (by kernel_rfl)) (fun _ _ _ h => h) (Or.inl ⟨by rfl, ?_⟩) ?_ ?_); rotate_left; ((intro w'; go_simp; with_reducible rfl)); rotate_left; ((simp only [Act.put, List.setIfInBounds_toArray, List.set_cons_zero, List.set_cons_succ, i64_w, i32_w]; rfl)); (refine pure_ (i := 3) (N := some 51) (v := ?_) (a' := ?_) #[true, true, false, true, false, false, false, false, false, false, false] rfl rfl (any_of HT_.out (by kernel_rfl)) (fun _ _ _ h => h) (Or.inl ⟨by rfl, ?_⟩) ?_ ?_); rotate_left; ((intro w'; go_simp; with_reducible rfl)); rotate_left; ((simp only [Act.put, List.setIfInBounds_toArray, List.set_cons_zero, List.set_cons_succ, i64_w, i32_w]; rfl)); (refine pure_ (i := 5) (N := some 53) (v := ?_) (a' := ?_) #[true, true, false, true, false, true, false, false, false, false, false] rfl rfl (any_of HT_.out (by kernel_rfl)) (fun _ _ _ h => h) (Or.inl ⟨by rfl, ?_⟩) ?_ ?_); rotate_left; ((intro w'; go_simp; with_reducible rfl)); rotate_left; ((simp only [Act.put, List.setIfInBounds_toArray, List.set_cons_zero, List.set_cons_succ, i64_w, i32_w]; rfl)); (refine take_ (i := 2) (N := some 50) (v := ?_) (a' := ?_) #[true, true, true, true, false, true, false, false, false, false, false] rfl rfl (take_ofW HT_.out HW_.out (by kernel_rfl)) (fun _ _ _ h => h) (Or.inl ⟨by rfl, ?_⟩) hHeld ?_ ?_); rotate_left
                 ·rintro w' ⟨s0, s1, s2, s3, s4, s5, s6, s7, s8, s9, s10⟩
                  (go_simp); (with_reducible rfl)
                 rotate_left; ((simp only [Act.put, List.setIfInBounds_toArray, List.set_cons_zero, List.set_cons_succ, i64_w, i32_w]; rfl)); (refine take_ (i := 4) (N := some 52) (v := ?_) (a' := ?_) #[true, true, true, true, true, true, false, false, false, false, false] rfl rfl (take_ofW HT_.out HW_.out (by kernel_rfl)) (fun _ _ _ h => h) (Or.inl ⟨by rfl, ?_⟩) hHeld ?_ ?_); rotate_left
                 ·rintro w' ⟨s0, s1, s2, s3, s4, s5, s6, s7, s8, s9, s10⟩
                  (go_simp); (with_reducible rfl)
                 rotate_left; ((simp only [Act.put, List.setIfInBounds_toArray, List.set_cons_zero, List.set_cons_succ, i64_w, i32_w]; rfl)); (refine pure_ (i := 6) (N := some 54) (v := ?_) (a' := ?_) #[true, true, true, true, true, true, true, false, false, false, false] rfl rfl (any_of HT_.out (by kernel_rfl)) (fun _ _ _ h => h) (Or.inl ⟨by rfl, ?_⟩) ?_ ?_); rotate_left; ((intro w'; go_simp; with_reducible rfl)); rotate_left; ((simp only [Act.put, List.setIfInBounds_toArray, List.set_cons_zero, List.set_cons_succ, i64_w, i32_w]; rfl)); (refine take_ (i := 7) (N := some 55) (v := ?_) (a' := ?_) #[true, true, true, true, true, true, true, true, false, false, false] rfl rfl (take_ofW HT_.out HW_.out (by kernel_rfl)) (fun _ _ _ h => h) (Or.inl ⟨by rfl, ?_⟩) hHeld ?_ ?_); rotate_left
                 ·rintro w' ⟨s0, s1, s2, s3, s4, s5, s6, s7, s8, s9, s10⟩
                  (go_simp); (with_reducible rfl)
                 rotate_left; ((simp only [Act.put, List.setIfInBounds_toArray, List.set_cons_zero, List.set_cons_succ, i64_w, i32_w]; rfl)); (refine one_ (i := 8) (N := some 56) #[true, true, true, true, true, true, true, true, true, false, false] rfl rfl (one_of HT_.out (by kernel_rfl)) (by decide) (fun K hK => ?_)); (refine goes_ Tryd.func13 (by kernel_rfl) rfl #[.agg #[.slice A0_0 l0_0.length c0_0, .slice A0_1 l0_1.length c0_1, .slice A0_2 l0_2.length c0_2, .slice (some ad311) l0_3.length c0_3, .slice A0_4 l0_4.length c0_4], .int .i64 (rd ((rd_T43 l0_3 x4_1).f1) x7_4)] (by rfl) rfl rfl (by (try simp only [List.map_toArray, List.map_cons, List.map_nil]); first | done | rfl | (simp only [List.length_drop, List.length_take]; rfl)) ?_); (with_reducible refine (arboristref15_Sym.calls _ _ l0_0 _ _ l0_1 _ _ l0_2 _ _ l0_3 _ _ l0_4 (rd ((rd_T43 l0_3 x4_1).f1) x7_4) t315 _ ?side1 ?side2 ?side3 ?side4 ?side5 ?side6 ?side7 ?side8 ?side9 ?side10 A28.out).mono ?_); ((case side1 => repeat (first | exact (Kd.C_below HR0_0.out HB.out) | (with_reducible refine Kd.C_alloc ?_ _) | (with_reducible refine Kd.C_drewN ?_ _) | (with_reducible refine Kd.C_drew ?_)))); ((case side2 => exact HC0_0.out)); ((case side3 => repeat (first | exact (Kd.C_below HR0_1.out HB.out) | (with_reducible refine Kd.C_alloc ?_ _) | (with_reducible refine Kd.C_drewN ?_ _) | (with_reducible refine Kd.C_drew ?_)))); ((case side4 => exact HC0_1.out)); ((case side5 => repeat (first | exact (Kd.C_below HR0_2.out HB.out) | (with_reducible refine Kd.C_alloc ?_ _) | (with_reducible refine Kd.C_drewN ?_ _) | (with_reducible refine Kd.C_drew ?_)))); ((case side6 => exact HC0_2.out)); ((case side7 => repeat (first | exact (Kd.C_below HR0_3.out HB.out) | (with_reducible refine Kd.C_alloc ?_ _) | (with_reducible refine Kd.C_drewN ?_ _) | (with_reducible refine Kd.C_drew ?_)))); ((case side8 => exact HC0_3.out)); ((case side9 => repeat (first | exact (Kd.C_below HR0_4.out HB.out) | (with_reducible refine Kd.C_alloc ?_ _) | (with_reducible refine Kd.C_drewN ?_ _) | (with_reducible refine Kd.C_drew ?_)))); ((case side10 => exact HC0_4.out)); (rintro e w33 ⟨rfl, hb⟩); (refine ⟨_, rfl, ?_⟩); (have n0_ := qM (qb (g := gb310) (o := .cells #[.slice A0_0 l0_0.length c0_0, .slice A0_1 l0_1.length c0_1, .slice A0_2 l0_2.length c0_2, .slice (some ad311) l0_3.length c0_3, .slice A0_4 l0_4.length c0_4] 27 (0, 0)) (by (with_reducible repeat (first | refine qn ?_ _ | refine qd ?_ | refine qa ?_ _)); exact BK310.out) hb)); (have n1_ := qM (qb (g := gb312) (o := .cells #[.int .i64 ((rd_T43 l0_3 x4_1).f0), .slice (some ad314) ((rd_T43 l0_3 x4_1).f1).length c311_1, .slice A311_2 ((rd_T43 l0_3 x4_1).f2).length c311_2, .string ((rd_T43 l0_3 x4_1).f3), .int .i64 ((rd_T43 l0_3 x4_1).f4)] 43 (0, 0)) (by (with_reducible repeat (first | refine qn ?_ _ | refine qd ?_ | refine qa ?_ _)); exact BK312.out) hb))
                 (have n2_ := qM (qP (by repeat (first | (with_reducible first | exact HB.out | apply qA | apply qN | apply qD | refine qS ?_ GE310.out | refine qS ?_ GE312.out) | exact HB.out)) hb)); clear BK310 BK312 HB; (have BK310 := n0_); (have BK312 := n1_); (have HB := n2_); clear n0_ n1_ n2_; ((try clear hb)); ((try clear hb2)); ((try clear hk)); ((try clear hi)); (refine hK.out _ _ ⟨(blk_cell BK310.out 0).trans rfl, (blk_cell BK310.out 1).trans rfl, (blk_cell BK310.out 2).trans rfl, (blk_cell BK310.out 3).trans rfl, (blk_cell BK310.out 4).trans rfl, (blk_cell BK312.out 0).trans rfl, (blk_cell BK312.out 1).trans rfl, (blk_cell BK312.out 2).trans rfl, (blk_cell BK312.out 3).trans rfl, (blk_cell BK312.out 4).trans rfl, ((HB.out.cell (qB w _ hw314_0)).trans hw314_0)⟩ (fun hHeld => ?_)); clear hK K; (refine norm_ (a' := ?_) ?_ ?_); rotate_left; ((show Act.put _ (some 56) _ = _; simp only [Act.put, List.setIfInBounds_toArray, List.set_cons_zero, List.set_cons_succ, i64_w, i32_w]; rfl)); (refine pure_ (i := 9) (N := some 57) (v := ?_) (a' := ?_) #[true, true, true, true, true, true, true, true, true, true, false] rfl rfl (any_of HT_.out (by kernel_rfl)) (fun _ _ _ h => h) (Or.inl ⟨by rfl, ?_⟩) ?_ ?_); rotate_left; ((intro w'; go_simp; with_reducible rfl)); rotate_left; ((simp only [Act.put, List.setIfInBounds_toArray, List.set_cons_zero, List.set_cons_succ, i64_w, i32_w]; rfl)); (refine pure_ (i := 10) (N := some 3) (v := ?_) (a' := ?_) #[true, true, true, true, true, true, true, true, true, true, true] rfl rfl (any_of HT_.out (by kernel_rfl)) (fun _ _ _ h => h) (Or.inl ⟨by rfl, ?_⟩) ?_ ?_); rotate_left; ((intro w'; go_simp; with_reducible rfl)); rotate_left; ((simp only [Act.put, List.setIfInBounds_toArray, List.set_cons_zero, List.set_cons_succ, i64_w, i32_w]; rfl)); (refine done_ (done_of HT_.out (by kernel_rfl)) ?_); (try go_wp2); (go_roundg k4)
                 case measure => have := HK1.out; have := HJ4.out; have := HJ15.out; have := HK4.out; omega
                 case rel => exact ⟨((x3_4 ++ (⟨#[32]⟩ : ByteArray)) ++ t315), (wrap64 (x7_4 + 1)), (by first | rfl | (simp; done) | (simp [*]; done)), (by first | rfl | (simp; done) | (simp [*]; done)), H', ⟨by have := HK1.out; have := HJ4.out; have := HJ15.out; have := HK4.out; omega⟩, ⟨by (with_reducible repeat (first | refine qn ?_ _ | refine qd ?_ | refine qa ?_ _)); exact BK310.out⟩, ⟨by (with_reducible repeat (first | refine qn ?_ _ | refine qd ?_ | refine qa ?_ _)); exact BK312.out⟩, ⟨by repeat (first | (with_reducible first | exact HB.out | apply qA | apply qN | apply qD | refine qS ?_ GE310.out | refine qS ?_ GE312.out) | exact HB.out)⟩⟩
                ·rw [if_neg c29] at H
                 exact absurd H (by simp)
               ·rw [if_neg c27] at H
                exact absurd H (by simp)
              ·rw [if_neg c26] at H
               exact absurd H (by simp)
             ·rw [if_neg c25] at H
              (have c25b0 : decide (x7_4 < (((rd_T43 l0_3 x4_1).f1).length : Int)) = false := decide_eq_false c25); clear c25; (by_cases c34 : ((rd_T43 l0_3 x4_1).f3).toList = ([] : List UInt8))
              ·rw [if_pos c34] at H
               (have c34b0 : (((rd_T43 l0_3 x4_1).f3).toList == ([] : List UInt8)) = true := beq_iff_eq.mpr c34); (have c34b1 : (((rd_T43 l0_3 x4_1).f3).toList != ([] : List UInt8)) = false := bne_eq_false_iff_eq.mpr c34); clear c34; (by_cases c35 : ((rd_T43 l0_3 x4_1).f4) > 0)
               ·rw [if_pos c35] at H
                (have c35b0 : decide (0 < ((rd_T43 l0_3 x4_1).f4)) = true := decide_eq_true c35); clear c35; (by_cases c36 : x3_4.size + 2 ≤ 9223372036854775807)
                ·rw [if_pos c36] at H
                 (have c36b0 := eq_true c36); (have c36b1 : decide (x3_4.size + 2 ≤ 9223372036854775807) = true := decide_eq_true c36); (try have c36b2 : (9223372036854775807 < x3_4.size + 2) = False := eq_false (Nat.not_lt.2 c36)); (replace H := Option.bind_eq_some_iff.mp H); (obtain ⟨t316, A370, H⟩ := H); (replace H : (if (x3_4 ++ (⟨#[32, 37]⟩ : ByteArray)).size + t316.size ≤ 9223372036854775807 then (if ((x3_4 ++ (⟨#[32, 37]⟩ : ByteArray)) ++ t316).size + 1 ≤ 9223372036854775807 then (arboristref15_Show.l0 k4 (((x3_4 ++ (⟨#[32, 37]⟩ : ByteArray)) ++ t316) ++ (⟨#[10]⟩ : ByteArray)) (wrap64 (x4_1 + 1)) l0_0 l0_1 l0_2 l0_3 l0_4) else (none)) else (none)) = some r := H); (have A37 := qM A370); clear A370; (by_cases c38 : (x3_4 ++ (⟨#[32, 37]⟩ : ByteArray)).size + t316.size ≤ 9223372036854775807)
                 ·rw [if_pos c38] at H
                  (have c38b0 := eq_true c38); (have c38b1 : decide ((x3_4 ++ (⟨#[32, 37]⟩ : ByteArray)).size + t316.size ≤ 9223372036854775807) = true := decide_eq_true c38); (try have c38b2 : (9223372036854775807 < (x3_4 ++ (⟨#[32, 37]⟩ : ByteArray)).size + t316.size) = False := eq_false (Nat.not_lt.2 c38)); (try have c38b3 : (9223372036854775807 < x3_4.size + 2 + t316.size) = False := eq_false (Nat.not_lt.2 (by have h_ := c38; simp only [ByteArray.size_append] at h_; exact h_))); (by_cases c39 : ((x3_4 ++ (⟨#[32, 37]⟩ : ByteArray)) ++ t316).size + 1 ≤ 9223372036854775807)
                  ·rw [if_pos c39] at H
                   (have c39b0 := eq_true c39); (have c39b1 : decide (((x3_4 ++ (⟨#[32, 37]⟩ : ByteArray)) ++ t316).size + 1 ≤ 9223372036854775807) = true := decide_eq_true c39); (try have c39b2 : (9223372036854775807 < ((x3_4 ++ (⟨#[32, 37]⟩ : ByteArray)) ++ t316).size + 1) = False := eq_false (Nat.not_lt.2 c39)); (try have c39b3 : (9223372036854775807 < x3_4.size + 2 + t316.size + 1) = False := eq_false (Nat.not_lt.2 (by have h_ := c39; simp only [ByteArray.size_append] at h_; exact h_))); (have H' := qM H); clear H; (have hnb40 := NB312_310.out); (have hnc40 := NB310_312.out); (obtain ⟨hcz41_0, hcz41_1, hcz41_2, hcz41_3, hcz41_4, hfz41_0, hfz41_1, hfz41_2, hfz41_3, hfz41_4⟩ := bx5 BK312.out)
                   go_wp2_with (first | ((with_reducible refine gate_callee (f := 41) rfl ?_); refine goesL_ (some 73) rfl rfl Tryd.func41 (by kernel_rfl) rfl #[.int .i64 ((rd_T43 l0_3 x4_1).f4)] rfl (by (try simp only [List.map_toArray, List.map_cons, List.map_nil]); first | done | rfl | (simp only [List.length_drop, List.length_take]; rfl)) ?_; (with_reducible refine (arboristref15_digits.calls k4 ((rd_T43 l0_3 x4_1).f4) t316 _ A37.out).mono ?_); rintro e w42 ⟨rfl, hb⟩; refine ⟨_, rfl, ?_⟩; have n0_ := qM (qb (g := gb310) (o := .cells #[.slice A0_0 l0_0.length c0_0, .slice A0_1 l0_1.length c0_1, .slice A0_2 l0_2.length c0_2, .slice (some ad311) l0_3.length c0_3, .slice A0_4 l0_4.length c0_4] 27 (0, 0)) (by (with_reducible repeat (first | refine qn ?_ _ | refine qd ?_ | refine qa ?_ _)); exact BK310.out) hb); have n1_ := qM (qb (g := gb312) (o := .cells #[.int .i64 ((rd_T43 l0_3 x4_1).f0), .slice A311_1 ((rd_T43 l0_3 x4_1).f1).length c311_1, .slice A311_2 ((rd_T43 l0_3 x4_1).f2).length c311_2, .string ((rd_T43 l0_3 x4_1).f3), .int .i64 ((rd_T43 l0_3 x4_1).f4)] 43 (0, 0)) (by (with_reducible repeat (first | refine qn ?_ _ | refine qd ?_ | refine qa ?_ _)); exact BK312.out) hb); have n2_ := qM (qP (by repeat (first | (with_reducible first | exact HB.out | apply qA | apply qN | apply qD | refine qS ?_ GE310.out | refine qS ?_ GE312.out) | exact HB.out)) hb); clear BK310; clear BK312; clear HB; have BK310 := n0_; have BK312 := n1_; have HB := n2_; clear n0_ n1_ n2_; (try clear hb); (try clear hb2); (try clear hk); (try clear hi)))
                   go_roundg k4
                   case measure => have := HK1.out; have := HJ4.out; have := HJ15.out; have := HK4.out; omega
                   case rel => exact ⟨(((x3_4 ++ (⟨#[32, 37]⟩ : ByteArray)) ++ t316) ++ (⟨#[10]⟩ : ByteArray)), (wrap64 (x4_1 + 1)), (by first | rfl | (simp; done) | (simp [*]; done)), (by first | rfl | (simp; done) | (simp [*]; done)), H', ⟨by have := HK1.out; have := HJ4.out; have := HJ15.out; have := HK4.out; omega⟩, ⟨by (with_reducible repeat (first | refine qn ?_ _ | refine qd ?_ | refine qa ?_ _)); exact BK310.out⟩, ⟨by repeat (first | (with_reducible first | exact HB.out | apply qA | apply qN | apply qD | refine qS ?_ GE310.out | refine qS ?_ GE312.out) | exact HB.out)⟩⟩
                  ·rw [if_neg c39] at H
                   exact absurd H (by simp)
                 ·rw [if_neg c38] at H
                  exact absurd H (by simp)
                ·rw [if_neg c36] at H
                 exact absurd H (by simp)
               ·rw [if_neg c35] at H
                (have c35b0 : decide (0 < ((rd_T43 l0_3 x4_1).f4)) = false := decide_eq_false c35); clear c35; (by_cases c43 : x3_4.size + 1 ≤ 9223372036854775807)
                ·rw [if_pos c43] at H
                 (have c43b0 := eq_true c43); (have c43b1 : decide (x3_4.size + 1 ≤ 9223372036854775807) = true := decide_eq_true c43); (try have c43b2 : (9223372036854775807 < x3_4.size + 1) = False := eq_false (Nat.not_lt.2 c43)); (have H' := qM H); clear H; (have hnb44 := NB312_310.out); (have hnc44 := NB310_312.out); (obtain ⟨hcz45_0, hcz45_1, hcz45_2, hcz45_3, hcz45_4, hfz45_0, hfz45_1, hfz45_2, hfz45_3, hfz45_4⟩ := bx5 BK312.out); go_wp2; (go_roundg k4)
                 case measure => have := HK1.out; have := HJ4.out; have := HJ15.out; have := HK4.out; omega
                 case rel => exact ⟨(x3_4 ++ (⟨#[10]⟩ : ByteArray)), (wrap64 (x4_1 + 1)), (by first | rfl | (simp; done) | (simp [*]; done)), (by first | rfl | (simp; done) | (simp [*]; done)), H', ⟨by have := HK1.out; have := HJ4.out; have := HJ15.out; have := HK4.out; omega⟩, ⟨by (with_reducible repeat (first | refine qn ?_ _ | refine qd ?_ | refine qa ?_ _)); exact BK310.out⟩, ⟨by repeat (first | (with_reducible first | exact HB.out | apply qA | apply qN | apply qD | refine qS ?_ GE310.out | refine qS ?_ GE312.out) | exact HB.out)⟩⟩
                ·rw [if_neg c43] at H
                 exact absurd H (by simp)
              ·rw [if_neg c34] at H
               (have c34b0 : (((rd_T43 l0_3 x4_1).f3).toList == ([] : List UInt8)) = false := beq_eq_false_iff_ne.mpr c34); (have c34b1 : (((rd_T43 l0_3 x4_1).f3).toList != ([] : List UInt8)) = true := bne_iff_ne.mpr c34); (by_cases c46 : x3_4.size + 2 ≤ 9223372036854775807)
               ·rw [if_pos c46] at H
                (have c46b0 := eq_true c46); (have c46b1 : decide (x3_4.size + 2 ≤ 9223372036854775807) = true := decide_eq_true c46); (try have c46b2 : (9223372036854775807 < x3_4.size + 2) = False := eq_false (Nat.not_lt.2 c46)); (by_cases c47 : (x3_4 ++ (⟨#[32, 35]⟩ : ByteArray)).size + ((rd_T43 l0_3 x4_1).f3).size ≤ 9223372036854775807)
                ·rw [if_pos c47] at H
                 (have c47b0 := eq_true c47); (have c47b1 : decide ((x3_4 ++ (⟨#[32, 35]⟩ : ByteArray)).size + ((rd_T43 l0_3 x4_1).f3).size ≤ 9223372036854775807) = true := decide_eq_true c47); (try have c47b2 : (9223372036854775807 < (x3_4 ++ (⟨#[32, 35]⟩ : ByteArray)).size + ((rd_T43 l0_3 x4_1).f3).size) = False := eq_false (Nat.not_lt.2 c47)); (try have c47b3 : (9223372036854775807 < x3_4.size + 2 + ((rd_T43 l0_3 x4_1).f3).size) = False := eq_false (Nat.not_lt.2 (by have h_ := c47; simp only [ByteArray.size_append] at h_; exact h_))); (by_cases c48 : ((rd_T43 l0_3 x4_1).f4) > 0)
                 ·rw [if_pos c48] at H
                  (have c48b0 : decide (0 < ((rd_T43 l0_3 x4_1).f4)) = true := decide_eq_true c48); clear c48; (by_cases c49 : ((x3_4 ++ (⟨#[32, 35]⟩ : ByteArray)) ++ ((rd_T43 l0_3 x4_1).f3)).size + 2 ≤ 9223372036854775807)
                  ·rw [if_pos c49] at H
                   (have c49b0 := eq_true c49); (have c49b1 : decide (((x3_4 ++ (⟨#[32, 35]⟩ : ByteArray)) ++ ((rd_T43 l0_3 x4_1).f3)).size + 2 ≤ 9223372036854775807) = true := decide_eq_true c49); (try have c49b2 : (9223372036854775807 < ((x3_4 ++ (⟨#[32, 35]⟩ : ByteArray)) ++ ((rd_T43 l0_3 x4_1).f3)).size + 2) = False := eq_false (Nat.not_lt.2 c49)); (try have c49b3 : (9223372036854775807 < x3_4.size + 2 + ((rd_T43 l0_3 x4_1).f3).size + 2) = False := eq_false (Nat.not_lt.2 (by have h_ := c49; simp only [ByteArray.size_append] at h_; exact h_))); (replace H := Option.bind_eq_some_iff.mp H); (obtain ⟨t317, A500, H⟩ := H); (replace H : (if (((x3_4 ++ (⟨#[32, 35]⟩ : ByteArray)) ++ ((rd_T43 l0_3 x4_1).f3)) ++ (⟨#[32, 37]⟩ : ByteArray)).size + t317.size ≤ 9223372036854775807 then (if ((((x3_4 ++ (⟨#[32, 35]⟩ : ByteArray)) ++ ((rd_T43 l0_3 x4_1).f3)) ++ (⟨#[32, 37]⟩ : ByteArray)) ++ t317).size + 1 ≤ 9223372036854775807 then (arboristref15_Show.l0 k4 (((((x3_4 ++ (⟨#[32, 35]⟩ : ByteArray)) ++ ((rd_T43 l0_3 x4_1).f3)) ++ (⟨#[32, 37]⟩ : ByteArray)) ++ t317) ++ (⟨#[10]⟩ : ByteArray)) (wrap64 (x4_1 + 1)) l0_0 l0_1 l0_2 l0_3 l0_4) else (none)) else (none)) = some r := H); (have A50 := qM A500); clear A500; (by_cases c51 : (((x3_4 ++ (⟨#[32, 35]⟩ : ByteArray)) ++ ((rd_T43 l0_3 x4_1).f3)) ++ (⟨#[32, 37]⟩ : ByteArray)).size + t317.size ≤ 9223372036854775807)
                   ·rw [if_pos c51] at H
                    (have c51b0 := eq_true c51); (have c51b1 : decide ((((x3_4 ++ (⟨#[32, 35]⟩ : ByteArray)) ++ ((rd_T43 l0_3 x4_1).f3)) ++ (⟨#[32, 37]⟩ : ByteArray)).size + t317.size ≤ 9223372036854775807) = true := decide_eq_true c51); (try have c51b2 : (9223372036854775807 < (((x3_4 ++ (⟨#[32, 35]⟩ : ByteArray)) ++ ((rd_T43 l0_3 x4_1).f3)) ++ (⟨#[32, 37]⟩ : ByteArray)).size + t317.size) = False := eq_false (Nat.not_lt.2 c51)); (try have c51b3 : (9223372036854775807 < x3_4.size + 2 + ((rd_T43 l0_3 x4_1).f3).size + 2 + t317.size) = False := eq_false (Nat.not_lt.2 (by have h_ := c51; simp only [ByteArray.size_append] at h_; exact h_))); (by_cases c52 : ((((x3_4 ++ (⟨#[32, 35]⟩ : ByteArray)) ++ ((rd_T43 l0_3 x4_1).f3)) ++ (⟨#[32, 37]⟩ : ByteArray)) ++ t317).size + 1 ≤ 9223372036854775807)
                    ·rw [if_pos c52] at H
                     (have c52b0 := eq_true c52); (have c52b1 : decide (((((x3_4 ++ (⟨#[32, 35]⟩ : ByteArray)) ++ ((rd_T43 l0_3 x4_1).f3)) ++ (⟨#[32, 37]⟩ : ByteArray)) ++ t317).size + 1 ≤ 9223372036854775807) = true := decide_eq_true c52); (try have c52b2 : (9223372036854775807 < ((((x3_4 ++ (⟨#[32, 35]⟩ : ByteArray)) ++ ((rd_T43 l0_3 x4_1).f3)) ++ (⟨#[32, 37]⟩ : ByteArray)) ++ t317).size + 1) = False := eq_false (Nat.not_lt.2 c52)); (try have c52b3 : (9223372036854775807 < x3_4.size + 2 + ((rd_T43 l0_3 x4_1).f3).size + 2 + t317.size + 1) = False := eq_false (Nat.not_lt.2 (by have h_ := c52; simp only [ByteArray.size_append] at h_; exact h_))); (have H' := qM H); clear H; (have hnb53 := NB312_310.out); (have hnc53 := NB310_312.out); (obtain ⟨hcz54_0, hcz54_1, hcz54_2, hcz54_3, hcz54_4, hfz54_0, hfz54_1, hfz54_2, hfz54_3, hfz54_4⟩ := bx5 BK312.out)
                     go_wp2_with (first | ((with_reducible refine gate_callee (f := 41) rfl ?_); refine goesL_ (some 73) rfl rfl Tryd.func41 (by kernel_rfl) rfl #[.int .i64 ((rd_T43 l0_3 x4_1).f4)] rfl (by (try simp only [List.map_toArray, List.map_cons, List.map_nil]); first | done | rfl | (simp only [List.length_drop, List.length_take]; rfl)) ?_; (with_reducible refine (arboristref15_digits.calls k4 ((rd_T43 l0_3 x4_1).f4) t317 _ A50.out).mono ?_); rintro e w55 ⟨rfl, hb⟩; refine ⟨_, rfl, ?_⟩; have n0_ := qM (qb (g := gb310) (o := .cells #[.slice A0_0 l0_0.length c0_0, .slice A0_1 l0_1.length c0_1, .slice A0_2 l0_2.length c0_2, .slice (some ad311) l0_3.length c0_3, .slice A0_4 l0_4.length c0_4] 27 (0, 0)) (by (with_reducible repeat (first | refine qn ?_ _ | refine qd ?_ | refine qa ?_ _)); exact BK310.out) hb); have n1_ := qM (qb (g := gb312) (o := .cells #[.int .i64 ((rd_T43 l0_3 x4_1).f0), .slice A311_1 ((rd_T43 l0_3 x4_1).f1).length c311_1, .slice A311_2 ((rd_T43 l0_3 x4_1).f2).length c311_2, .string ((rd_T43 l0_3 x4_1).f3), .int .i64 ((rd_T43 l0_3 x4_1).f4)] 43 (0, 0)) (by (with_reducible repeat (first | refine qn ?_ _ | refine qd ?_ | refine qa ?_ _)); exact BK312.out) hb); have n2_ := qM (qP (by repeat (first | (with_reducible first | exact HB.out | apply qA | apply qN | apply qD | refine qS ?_ GE310.out | refine qS ?_ GE312.out) | exact HB.out)) hb); clear BK310; clear BK312; clear HB; have BK310 := n0_; have BK312 := n1_; have HB := n2_; clear n0_ n1_ n2_; (try clear hb); (try clear hb2); (try clear hk); (try clear hi)))
                     go_roundg k4
                     case measure => have := HK1.out; have := HJ4.out; have := HJ15.out; have := HK4.out; omega
                     case rel => exact ⟨(((((x3_4 ++ (⟨#[32, 35]⟩ : ByteArray)) ++ ((rd_T43 l0_3 x4_1).f3)) ++ (⟨#[32, 37]⟩ : ByteArray)) ++ t317) ++ (⟨#[10]⟩ : ByteArray)), (wrap64 (x4_1 + 1)), (by first | rfl | (simp; done) | (simp [*]; done)), (by first | rfl | (simp; done) | (simp [*]; done)), H', ⟨by have := HK1.out; have := HJ4.out; have := HJ15.out; have := HK4.out; omega⟩, ⟨by (with_reducible repeat (first | refine qn ?_ _ | refine qd ?_ | refine qa ?_ _)); exact BK310.out⟩, ⟨by repeat (first | (with_reducible first | exact HB.out | apply qA | apply qN | apply qD | refine qS ?_ GE310.out | refine qS ?_ GE312.out) | exact HB.out)⟩⟩
                    ·rw [if_neg c52] at H
                     exact absurd H (by simp)
                   ·rw [if_neg c51] at H
                    exact absurd H (by simp)
                  ·rw [if_neg c49] at H
                   exact absurd H (by simp)
                 ·rw [if_neg c48] at H
                  (have c48b0 : decide (0 < ((rd_T43 l0_3 x4_1).f4)) = false := decide_eq_false c48); clear c48; (by_cases c56 : ((x3_4 ++ (⟨#[32, 35]⟩ : ByteArray)) ++ ((rd_T43 l0_3 x4_1).f3)).size + 1 ≤ 9223372036854775807)
                  ·rw [if_pos c56] at H
                   (have c56b0 := eq_true c56); (have c56b1 : decide (((x3_4 ++ (⟨#[32, 35]⟩ : ByteArray)) ++ ((rd_T43 l0_3 x4_1).f3)).size + 1 ≤ 9223372036854775807) = true := decide_eq_true c56); (try have c56b2 : (9223372036854775807 < ((x3_4 ++ (⟨#[32, 35]⟩ : ByteArray)) ++ ((rd_T43 l0_3 x4_1).f3)).size + 1) = False := eq_false (Nat.not_lt.2 c56)); (try have c56b3 : (9223372036854775807 < x3_4.size + 2 + ((rd_T43 l0_3 x4_1).f3).size + 1) = False := eq_false (Nat.not_lt.2 (by have h_ := c56; simp only [ByteArray.size_append] at h_; exact h_))); (have H' := qM H); clear H; (have hnb57 := NB312_310.out); (have hnc57 := NB310_312.out); (obtain ⟨hcz58_0, hcz58_1, hcz58_2, hcz58_3, hcz58_4, hfz58_0, hfz58_1, hfz58_2, hfz58_3, hfz58_4⟩ := bx5 BK312.out); go_wp2; (go_roundg k4)
                   case measure => have := HK1.out; have := HJ4.out; have := HJ15.out; have := HK4.out; omega
                   case rel => exact ⟨(((x3_4 ++ (⟨#[32, 35]⟩ : ByteArray)) ++ ((rd_T43 l0_3 x4_1).f3)) ++ (⟨#[10]⟩ : ByteArray)), (wrap64 (x4_1 + 1)), (by first | rfl | (simp; done) | (simp [*]; done)), (by first | rfl | (simp; done) | (simp [*]; done)), H', ⟨by have := HK1.out; have := HJ4.out; have := HJ15.out; have := HK4.out; omega⟩, ⟨by (with_reducible repeat (first | refine qn ?_ _ | refine qd ?_ | refine qa ?_ _)); exact BK310.out⟩, ⟨by repeat (first | (with_reducible first | exact HB.out | apply qA | apply qN | apply qD | refine qS ?_ GE310.out | refine qS ?_ GE312.out) | exact HB.out)⟩⟩
                  ·rw [if_neg c56] at H
                   exact absurd H (by simp)
                ·rw [if_neg c47] at H
                 exact absurd H (by simp)
               ·rw [if_neg c46] at H
                exact absurd H (by simp)
          ·rw [if_neg c24] at H
           exact absurd H (by simp)
         ·rw [if_neg c23] at H
          exact absurd H (by simp)
    ·rw [if_neg c4] at H
     exact absurd H (by simp)
   ·rw [if_neg c3] at H
    (have c3b0 : decide (x4_1 < (l0_3.length : Int)) = false := decide_eq_false c3); clear c3; (obtain rfl := Option.some.inj H); (obtain ⟨hcz59_0, hcz59_1, hcz59_2, hcz59_3, hcz59_4, hfz59_0, hfz59_1, hfz59_2, hfz59_3, hfz59_4⟩ := bx5 BK310.out); go_wp2; (go_ret); (exact ⟨by first | rfl | (simp [errW_none, errW_some] <;> rfl) | (simp [*, errW_none, errW_some] <;> rfl), by repeat (first | (with_reducible first | exact HB.out | apply qA | apply qN | apply qD | refine qS ?_ GE310.out) | exact HB.out)⟩)
end Go.Proofs.YtgchidlombijbaaDoor.H
end
