import Derived.Test.YtgchidlombijbaaDoorZq3
section
namespace Go.Proofs.YtgchidlombijbaaDoor.H
open Go.RowKit Go.Proofs.YtgchidlombijbaaDoorW.PrintWords Go.Proofs.YtgchidlombijbaaDoorW.PrintLast Go.Proofs.YtgchidlombijbaaDoorW.PrintMore
open Go.Maps
set_option linter.unusedVariables false
set_option linter.unusedSimpArgs false
def termsGo (n : Int) : (Int → Bool) → List Int → Option (Int → Bool)
  | met, [] => some met
  | met, t :: r => if 2 ≤ t ∧ t ≤ n - 1 ∧ met t = false then termsGo n (fun z => z == t || met z) r else none
def levelsGo (n : Int) : (Int → Bool) → List S46 → Int
  | _, [] => 0
  | met, x :: r => if 1 ≤ x.f0 ∧ x.f0 ≤ 4 then (match termsGo n met x.f1 with | none => 24 | some m => levelsGo n m r) else 24
def rulesGo (k : Nat) (l0_0 l0_1 : List ByteArray) (l0_2 : List Int) (l0_3 : List S43) (l0_4 : List S46) : Int → List S43 → Option Int
  | _, [] => some 0
  | ahead, x :: r => (grammar_rule.f k l0_0 l0_1 l0_2 l0_3 l0_4 x.f0 x.f1 x.f2 x.f3 x.f4 ahead).bind fun e => if e = 0 then rulesGo k l0_0 l0_1 l0_2 l0_3 l0_4 x.f0 r else some e
def grammar_Right.ok (l0 : List ByteArray) (l4 : List S46) : Bool := decide (l0.length ≤ 1000000) && decide (l4.length ≤ 1000000) && l4.all (fun x => decide (x.f1.length ≤ 1000000) && x.f1.all (fun t => decide (-9223372036854775808 ≤ t) && decide (t ≤ 9223372036854775807)))
def grammar_Right.f (k : Nat) (l0_0 : List ByteArray) (l0_1 : List ByteArray) (l0_2 : List Int) (l0_3 : List S43) (l0_4 : List S46) : Option Int :=
  (grammar_counts.f k l0_0 l0_1 l0_2 l0_3 l0_4).bind fun c => if c = true then
    ((grammar_twice.f l0_0).bind fun t => if t = true then some 8 else
      ((grammar_twice.f l0_1).bind fun u => if u = true then some 8 else
        ((grammar_start.f k l0_0 l0_1 l0_2 l0_3 l0_4).bind fun s => if s = true then
          ((rulesGo k l0_0 l0_1 l0_2 l0_3 l0_4 0 l0_3).bind fun e => if e = 0 then
            (if grammar_Right.ok l0_0 l0_4 = true then some (levelsGo l0_0.length (fun _ => false) l0_4) else none)
          else some e)
        else some 23)))
  else some 9
def MM {H : Type} (D : DataW H) (met : Int → Bool) : Prop := ∀ z : Int, D.atKey (.int .i64 z) (.lit (.int .i64 0)) = .lit (.int .i64 (if met z = true then 1 else 0))
theorem MM.zero {H : Type} : MM (H := H) (.map []) (fun _ => false) := fun z => by simp [DataW.atKey]
theorem MM.put {H : Type} {D : DataW H} {met : Int → Bool} (h : MM D met) (hm : Maps.IsMap D) (t : Int) : MM (D.put (.int .i64 t) (.lit (.int .i64 1))) (fun z => z == t || met z) := fun z => by
  have hk : WideAt.IsKeyLit (.int .i64 t) := trivial
  by_cases e : z = t
  · subst e
    rw [Maps.atKey_put_same hm hk]
    simp
  · rw [Maps.atKey_put_other (fun he => e (by injection he)), h z]
    simp [e]
theorem law_int : Keyed Tryd.prog 3 := int_keyed Tryd.underlying3
def Cap (n j i : Nat) : Prop := n ≤ j * 1000000 + i
set_option maxRecDepth 100000
theorem Cap.zero : Cap 0 0 0 := Nat.zero_le _
theorem Cap.step {n j i : Nat} (h : Cap n j i) : Cap (n + 1) j (i + 1) := by unfold Cap at *; omega
theorem Cap.next {n j i : Nat} (h : Cap n j i) (hi : i ≤ 1000000) : Cap n (j + 1) 0 := by
  unfold Cap at *
  rw [Nat.succ_mul, Nat.add_zero]
  exact Nat.le_trans h (Nat.add_le_add_left hi _)
theorem Cap.lt {n j i l : Nat} (h : Cap n j i) (hj : j < l) (hl : l ≤ 1000000) (hi : i ≤ 1000000) : n < maxLen := by
  unfold Cap at h
  have h2 : j * 1000000 ≤ l * 1000000 := Nat.mul_le_mul_right _ (Nat.le_of_lt hj)
  have h3 : l * 1000000 ≤ 1000000 * 1000000 := Nat.mul_le_mul_right _ hl
  have h4 : n ≤ 1000000 * 1000000 + 1000000 := Nat.le_trans h (Nat.add_le_add (Nat.le_trans h2 h3) hi)
  refine Nat.lt_of_le_of_lt h4 ?_
  unfold maxLen
  decide
theorem within_no {t n : Int} (h : ¬ (2 ≤ t ∧ t ≤ n)) : grammar_within.f t 2 n = some false := by
  unfold grammar_within.f
  by_cases h5 : t ≥ 2
  · rw [if_pos h5, decide_eq_false (fun z => h ⟨h5, z⟩)]
  · rw [if_neg h5]
theorem rulesGo.mono (l0_0 l0_1 : List ByteArray) (l0_2 : List Int) (l0_3 : List S43) (l0_4 : List S46) (k : Nat) : ∀ (l : List S43) (a : Int), LeO (rulesGo k l0_0 l0_1 l0_2 l0_3 l0_4 a l) (rulesGo (k + 1) l0_0 l0_1 l0_2 l0_3 l0_4 a l)
  | [], a => LeO.refl _
  | x :: r, a => LeO.bind (grammar_rule.mono _ _ _ _ _ _ _ _ _ _ _ k) fun e => LeO.ite (rulesGo.mono _ _ _ _ _ k r _) (LeO.refl _)
theorem grammar_Right.mono : ∀ a0 a1 a2 a3 a4 k, LeO (grammar_Right.f k a0 a1 a2 a3 a4) (grammar_Right.f (k + 1) a0 a1 a2 a3 a4) := by
  intro a0 a1 a2 a3 a4 k
  unfold grammar_Right.f
  refine LeO.bind (grammar_counts.mono _ _ _ _ _ k) fun c => LeO.ite ?_ (LeO.refl _)
  refine LeO.bind (LeO.refl _) fun t => LeO.ite (LeO.refl _) ?_
  refine LeO.bind (LeO.refl _) fun u => LeO.ite (LeO.refl _) ?_
  refine LeO.bind (grammar_start.mono _ _ _ _ _ k) fun s => LeO.ite ?_ (LeO.refl _)
  exact LeO.bind (rulesGo.mono _ _ _ _ _ k _ _) fun e => LeO.refl _
set_option maxHeartbeats 800000 in
set_option maxRecDepth 100000 in
theorem grammar_Right.calls (k : Nat) (A0_0 : Option Addr) (c0_0 : Nat) (l0_0 : List ByteArray) (A0_1 : Option Addr) (c0_1 : Nat) (l0_1 : List ByteArray) (A0_2 : Option Addr) (c0_2 : Nat) (l0_2 : List Int) (A0_3 : Option Addr) (c0_3 : Nat) (l0_3 : List (S43)) (A0_4 : Option Addr) (c0_4 : Nat) (l0_4 : List (S46)) (r : Int) (w : World) (hr0_0 : Kd.C Kd.string w A0_0 l0_0.length l0_0) (hc0_0 : l0_0.length ≤ c0_0) (hr0_1 : Kd.C Kd.string w A0_1 l0_1.length l0_1) (hc0_1 : l0_1.length ≤ c0_1) (hr0_2 : Kd.C (Kd.int .i64) w A0_2 l0_2.length l0_2) (hc0_2 : l0_2.length ≤ c0_2) (hr0_3 : Kd.C k43 w A0_3 l0_3.length l0_3) (hc0_3 : l0_3.length ≤ c0_3) (hr0_4 : Kd.C k46 w A0_4 l0_4.length l0_4) (hc0_4 : l0_4.length ≤ c0_4) (h : grammar_Right.f k l0_0 l0_1 l0_2 l0_3 l0_4 = some r) :
    Calls Tryd.prog 10 #[.agg #[.slice A0_0 l0_0.length c0_0, .slice A0_1 l0_1.length c0_1, .slice A0_2 l0_2.length c0_2, .slice A0_3 l0_3.length c0_3, .slice A0_4 l0_4.length c0_4]] w fun e w' => e = .returned (.int .i64 r) ∧ Below w.heap.size w w' := by
  have HG := Aside0.mk (InG.mk hr0_0 hc0_0 hr0_1 hc0_1 hr0_2 hc0_2 hr0_3 hc0_3 hr0_4 hc0_4)
  clear hr0_0 hc0_0 hr0_1 hc0_1 hr0_2 hc0_2 hr0_3 hc0_3 hr0_4 hc0_4
  have hmm := @run_makeMap Tryd.prog
  have hb3 : l0_3.length ≤ 9223372036854775807 := HG.out.r3.2.1
  have hb4 : l0_4.length ≤ 9223372036854775807 := HG.out.r4.2.1
  have hu := Tryd.underlying27
  have hur := Tryd.underlying43
  have hul := Tryd.underlying46
  unfold grammar_Right.f at h
  obtain ⟨c, hcnt, h1⟩ := Option.bind_eq_some_iff.mp h
  clear h
  have HCN := Aside0.mk hcnt
  clear hcnt
  go_enter Tryd.func10, Tryd.ntmps10
  cases c with
  | false =>
    obtain rfl : r = 9 := by simpa using h1.symm
    clear h1
    go_wp2_with (go_at_call 25; refine ((HG.out.below (below_alloc (Below.refl _ _) _)).counts HCN.out).mono ?_; rintro e w1 ⟨rfl, hb⟩; have HB := Aside0.mk (below_step (below_alloc (Below.refl _ _) _) hb); clear hb)
    go_ret
    exact ⟨rfl, HB.out⟩
  | true =>
    simp only [if_true] at h1
    obtain ⟨t, htw, h⟩ := Option.bind_eq_some_iff.mp h1
    clear h1
    have HTW := Aside0.mk htw
    clear htw
    go_wp2_with (go_at_call 25; refine ((HG.out.below (below_alloc (Below.refl _ _) _)).counts HCN.out).mono ?_; rintro e w1 ⟨rfl, hb⟩; have HB := Aside0.mk (below_step (below_alloc (Below.refl _ _) _) hb); have BK := Aside0.mk (GB.below (GB.new w (A0 := A0_0) (c0 := c0_0) (l0 := l0_0) (A1 := A0_1) (c1 := c0_1) (l1 := l0_1) (A2 := A0_2) (c2 := c0_2) (l2 := l0_2) (A3 := A0_3) (c3 := c0_3) (l3 := l0_3) (A4 := A0_4) (c4 := c0_4) (l4 := l0_4)) hb); clear hb; obtain ⟨hcz0, hcz1, hcz2, hcz3, hcz4⟩ := BK.out.cells)
    refine (grammar_twice.calls _ _ l0_0 t _ (Kd.C_below HG.out.r0 HB.out) HG.out.h0 HTW.out).mono ?_
    rintro e w2 ⟨rfl, hb⟩
    replace HB := Aside0.mk (below_step HB.out hb)
    replace BK := Aside0.mk (BK.out.below hb)
    clear hcz0 hcz1 hcz2 hcz3 hcz4 hb HTW
    obtain ⟨hcz0, hcz1, hcz2, hcz3, hcz4⟩ := BK.out.cells
    cases t with
    | true =>
      obtain rfl : r = 8 := by simpa using h.symm
      clear h
      go_wp2_with fail
      go_ret
      exact ⟨rfl, HB.out⟩
    | false =>
    simp only [Bool.false_eq_true, if_false] at h
    obtain ⟨u, htw, h2⟩ := Option.bind_eq_some_iff.mp h
    clear h
    have HTW := Aside0.mk htw
    have HH := Aside0.mk h2
    clear htw h2
    go_wp2_with fail
    refine (grammar_twice.calls _ _ l0_1 u _ (Kd.C_below HG.out.r1 HB.out) HG.out.h1 HTW.out).mono ?_
    rintro e w3 ⟨rfl, hb⟩
    replace HB := Aside0.mk (below_step HB.out hb)
    replace BK := Aside0.mk (BK.out.below hb)
    clear hcz0 hcz1 hcz2 hcz3 hcz4 hb HTW
    obtain ⟨hcz0, hcz1, hcz2, hcz3, hcz4⟩ := BK.out.cells
    cases u with
    | true =>
      obtain rfl : r = 8 := by simpa using HH.out.symm
      go_wp2_with fail
      go_ret
      exact ⟨rfl, HB.out⟩
    | false =>
    have h := HH.out
    clear HH
    simp only [Bool.false_eq_true, if_false] at h
    obtain ⟨s, hst, h2⟩ := Option.bind_eq_some_iff.mp h
    clear h
    have HST := Aside0.mk hst
    have HH := Aside0.mk h2
    clear hst h2
    go_wp2_with fail
    refine ((HG.out.below HB.out).start HST.out).mono ?_
    rintro e w4 ⟨rfl, hb⟩
    replace HB := Aside0.mk (below_step HB.out hb)
    replace BK := Aside0.mk (BK.out.below hb)
    clear hcz0 hcz1 hcz2 hcz3 hcz4 hb HST
    obtain ⟨hcz0, hcz1, hcz2, hcz3, hcz4⟩ := BK.out.cells
    cases s with
    | false =>
      obtain rfl : r = 23 := by simpa using HH.out.symm
      go_wp2_with fail
      go_ret
      exact ⟨rfl, HB.out⟩
    | true =>
    have h := HH.out
    clear HH
    simp only [if_true] at h
    have HH := Aside0.mk h
    clear h
    go_wp2_with fail
    go_loopw [3, 32] (fun v3 v32 wr => ∃ (a : Int) (i : Nat), v3 = .int .i64 a ∧ i ≤ l0_3.length ∧ v32 = .int .i64 i ∧ Aside0 (((rulesGo k l0_0 l0_1 l0_2 l0_3 l0_4 a (l0_3.drop i)).bind fun e => if e = 0 then
            (if grammar_Right.ok l0_0 l0_4 = true then some (levelsGo l0_0.length (fun _ => false) l0_4) else none)
          else some e) = some r) ∧ Aside0 (GB wr w.heap.size A0_0 c0_0 l0_0 A0_1 c0_1 l0_1 A0_2 c0_2 l0_2 A0_3 c0_3 l0_3 A0_4 c0_4 l0_4) ∧ Aside0 (Below w.heap.size w wr))
      (fun _ v32 _ => l0_3.length - (intOf v32).toNat)
    case atStart => exact ⟨0, 0, rfl, Nat.zero_le _, rfl, HH, BK, HB⟩
    case round =>
      clear HH BK HB hcz0 hcz1 hcz2 hcz3 hcz4
      obtain ⟨a, i, rfl, hi, rfl, HH, BK, HB⟩ := hrel
      have hsz : w.heap.size < wr.heap.size := blk_lt BK.out
      have hne : ¬ (w.heap.size = wr.heap.size) := Nat.ne_of_lt hsz
      obtain ⟨hcz0, hcz1, hcz2, hcz3, hcz4⟩ := BK.out.cells
      by_cases hlt : i < l0_3.length
      · obtain ⟨ad, A1, c1, A2, c2, e0, hx0, hx1, hx2, hx3, hx4, hl1, hi1, hl2, hi2⟩ := at_T43 HG.out.r3 (i : Int) (by omega) (by omega)
        cases e0
        simp only [Int.toNat_natCast] at hx0 hx1 hx2 hx3 hx4
        replace hx0 := (HB.out.cell (World.block_lt_of_cell? w _ hx0)).trans hx0
        replace hx1 := (HB.out.cell (World.block_lt_of_cell? w _ hx1)).trans hx1
        replace hx2 := (HB.out.cell (World.block_lt_of_cell? w _ hx2)).trans hx2
        replace hx3 := (HB.out.cell (World.block_lt_of_cell? w _ hx3)).trans hx3
        replace hx4 := (HB.out.cell (World.block_lt_of_cell? w _ hx4)).trans hx4
        have HI1 := Aside0.mk hi1
        have HI2 := Aside0.mk hi2
        clear hi1 hi2
        have h := HH.out
        rw [List.drop_eq_getElem_cons hlt, show l0_3[i] = rd_T43 l0_3 (i : Int) from by simp [rd_T43, List.getD_eq_getElem?_getD, List.getElem?_eq_getElem hlt]] at h
        simp only [rulesGo, Option.bind_assoc] at h
        obtain ⟨e1, hrl, h2⟩ := Option.bind_eq_some_iff.mp h
        have HRL := Aside0.mk hrl
        have HH2 := Aside0.mk h2
        clear h h2 hrl HH
        go_wp2_with fail
        refine (grammar_rule.calls k _ _ l0_0 _ _ l0_1 _ _ l0_2 _ _ l0_3 _ _ l0_4 _ _ _ _ _ _ _ _ _ a e1 _ ?s0 HG.out.h0 ?s1 HG.out.h1 ?s2 HG.out.h2 ?s3 HG.out.h3 ?s4 HG.out.h4 ?t1 hl1 ?t2 hl2 HRL.out).mono ?_
        case s0 => exact Kd.C_below HG.out.r0 (by repeat (first | exact HB.out | refine below_set ?_ (Nat.le_of_lt hsz) | apply below_alloc))
        case s1 => exact Kd.C_below HG.out.r1 (by repeat (first | exact HB.out | refine below_set ?_ (Nat.le_of_lt hsz) | apply below_alloc))
        case s2 => exact Kd.C_below HG.out.r2 (by repeat (first | exact HB.out | refine below_set ?_ (Nat.le_of_lt hsz) | apply below_alloc))
        case s3 => exact Kd.C_below HG.out.r3 (by repeat (first | exact HB.out | refine below_set ?_ (Nat.le_of_lt hsz) | apply below_alloc))
        case s4 => exact Kd.C_below HG.out.r4 (by repeat (first | exact HB.out | refine below_set ?_ (Nat.le_of_lt hsz) | apply below_alloc))
        case t1 => exact Kd.C_below HI1.out (by repeat (first | exact HB.out | refine below_set ?_ (Nat.le_of_lt hsz) | apply below_alloc))
        case t2 => exact Kd.C_below HI2.out (by repeat (first | exact HB.out | refine below_set ?_ (Nat.le_of_lt hsz) | apply below_alloc))
        rintro e w5 ⟨rfl, hb⟩
        have HB2 := Aside0.mk (below_step (w := w) (by repeat (first | exact HB.out | refine below_set ?_ (Nat.le_of_lt hsz) | apply below_alloc)) hb)
        have BK2 := Aside0.mk (show GB w5 w.heap.size A0_0 c0_0 l0_0 A0_1 c0_1 l0_1 A0_2 c0_2 l0_2 _ c0_3 l0_3 A0_4 c0_4 l0_4 from blk_below (g := w.heap.size) (by repeat (first | exact BK.out | refine blk_far ?_ hne _ | refine blk_alloc ?_ _)) hb)
        have BX := Aside0.mk (blk_below (g := wr.heap.size) (o := .cells #[.int .i64 (rd_T43 l0_3 (i : Int)).f0, .slice A1 (rd_T43 l0_3 (i : Int)).f1.length c1, .slice A2 (rd_T43 l0_3 (i : Int)).f2.length c2, .string (rd_T43 l0_3 (i : Int)).f3, .int .i64 (rd_T43 l0_3 (i : Int)).f4] 43 (0, 0)) (blk_new wr _) hb)
        clear hx0 hx1 hx2 hx3 hx4 hb hcz0 hcz1 hcz2 hcz3 hcz4
        have hy0 : w5.cell? ⟨wr.heap.size, 0, none⟩ = some (.int .i64 (rd_T43 l0_3 (i : Int)).f0) := (blk_cell BX.out 0).trans rfl
        by_cases he : e1 = 0
        · subst he
          have HR2 := Aside0.mk HH2.out
          simp only [if_true] at HR2
          go_wp2_with fail
          go_roundw
          case rel => exact ⟨_, i + 1, rfl, by omega, by go_num, HR2, BK2, HB2⟩
          case measure => simp [intOf]; omega
        · obtain rfl : r = e1 := by have := HH2.out; rw [if_neg he] at this; simpa [he] using this.symm
          have hq1 : (r == 0) = false := beq_eq_false_iff_ne.mpr he
          have hq2 : (r != 0) = true := bne_iff_ne.mpr he
          go_wp2_with fail
          go_ret
          exact ⟨rfl, HB2.out⟩
      · have hie : i = l0_3.length := by omega
        subst hie
        have h := HH.out
        rw [List.drop_of_length_le (Nat.le_refl _)] at h
        simp only [rulesGo, Option.bind_some, if_true] at h
        split at h
        case isFalse => cases h
        rename_i hok
        have HR := Aside0.mk (Option.some.inj h)
        have HOK := Aside0.mk hok
        clear h hok HH
        simp only [grammar_Right.ok, Bool.and_eq_true, decide_eq_true_eq, List.all_eq_true] at HOK
        have hT0 : l0_0.length ≤ 1000000 := HOK.out.1.1
        have hT4 : l0_4.length ≤ 1000000 := HOK.out.1.2
        have HX := Aside0.mk HOK.out.2
        clear HOK hcz0 hcz1 hcz2 hcz3
        obtain ⟨wo, rfl⟩ : ∃ wo : World, wo = wr := ⟨_, rfl⟩
        go_wp2_with fail
        go_loopw [50] (fun v50 wr => ∃ (j n : Nat) (met : Int → Bool), j ≤ l0_4.length ∧ v50 = .int .i64 j ∧ Aside0 (Cap n j 0) ∧ (∃ D : DataW Unit, Aside0 (wr.ownsMap Tryd.prog 3 (plainElem Tryd.prog 3) wo.heap.size n D) ∧ Aside0 (MM D met)) ∧ Aside0 (levelsGo l0_0.length met (l0_4.drop j) = r) ∧ Aside0 (GB wr w.heap.size A0_0 c0_0 l0_0 A0_1 c0_1 l0_1 A0_2 c0_2 l0_2 A0_3 c0_3 l0_3 A0_4 c0_4 l0_4) ∧ Aside0 (Below w.heap.size w wr))
          (fun v50 _ => l0_4.length - (intOf v50).toNat)
        case atStart => exact ⟨0, 0, fun _ => false, Nat.zero_le _, rfl, ⟨Cap.zero⟩, ⟨.map [], ⟨World.ownsMap_made _ _ _ _⟩, ⟨MM.zero⟩⟩, HR, ⟨blk_alloc BK.out _⟩, ⟨below_alloc HB.out _⟩⟩
        case round =>
          clear HR BK HB hcz4
          obtain ⟨j, n, met, hj, rfl, hn, ⟨D, HO, HD⟩, HR, BK, HB⟩ := hrel
          obtain ⟨hcz0, hcz1, hcz2, hcz3, hcz4⟩ := BK.out.cells
          have hsz2 : w.heap.size < wr.heap.size := blk_lt BK.out
          have hne2 : ¬ (w.heap.size = wr.heap.size) := Nat.ne_of_lt hsz2
          by_cases hlt2 : j < l0_4.length
          · obtain ⟨ad, A1, c1, e0, hx0, hx1, hl1, hi1⟩ := at_T46 HG.out.r4 (j : Int) (by omega) (by omega)
            cases e0
            simp only [Int.toNat_natCast] at hx0 hx1
            replace hx0 := (HB.out.cell (World.block_lt_of_cell? w _ hx0)).trans hx0
            replace hx1 := (HB.out.cell (World.block_lt_of_cell? w _ hx1)).trans hx1
            have HX1 := Aside0.mk (HX.out (l0_4[j]) (List.getElem_mem hlt2))
            have HR1 := HR.out
            rw [List.drop_eq_getElem_cons hlt2] at HR1
            have ex : l0_4[j] = rd_T46 l0_4 (j : Int) := by simp [rd_T46, List.getD_eq_getElem?_getD, List.getElem?_eq_getElem hlt2]
            rw [ex] at HR1 HX1
            simp only [levelsGo] at HR1
            obtain ⟨x, hx⟩ : ∃ x, x = rd_T46 l0_4 (j : Int) := ⟨_, rfl⟩
            rw [← hx] at HR1 HX1 hx0 hx1 hl1 hi1
            have HR2 := Aside0.mk HR1
            have HI := Aside0.mk hi1
            clear ex hx HR1 HR hi1
            by_cases h1 : 1 ≤ x.f0
            · by_cases h2 : x.f0 ≤ 4
              · have HR1 := HR2.out
                rw [if_pos ⟨h1, h2⟩] at HR1
                have HR3 := Aside0.mk HR1
                clear HR1 HR2
                have hxl : x.f1.length ≤ 1000000 := HX1.out.1
                have q1 : decide (x.f0 < 1) = false := decide_eq_false (by omega)
                have q2 : decide (4 < x.f0) = false := decide_eq_false (by omega)
                go_wp2_with fail
                obtain ⟨wq, rfl⟩ : ∃ wq : World, wq = wr := ⟨_, rfl⟩
                go_loopw [65] (fun v65 wr => ∃ (i m : Nat) (met : Int → Bool), i ≤ x.f1.length ∧ v65 = .int .i64 i ∧ Aside0 (Cap m j i) ∧ (∃ D : DataW Unit, Aside0 (wr.ownsMap Tryd.prog 3 (plainElem Tryd.prog 3) wo.heap.size m D) ∧ Aside0 (MM D met)) ∧ Aside0 ((match termsGo l0_0.length met (x.f1.drop i) with | none => 24 | some m => levelsGo l0_0.length m (l0_4.drop (j + 1))) = r) ∧ Aside0 (GB wr w.heap.size A0_0 c0_0 l0_0 A0_1 c0_1 l0_1 A0_2 c0_2 l0_2 A0_3 c0_3 l0_3 _ c0_4 l0_4) ∧ Aside0 (Below w.heap.size w wr))
                  (fun v65 _ => x.f1.length - (intOf v65).toNat)
                case atStart => exact ⟨0, n, met, Nat.zero_le _, rfl, hn, ⟨D, ⟨HO.out.alloc _⟩, HD⟩, HR3, ⟨blk_alloc BK.out _⟩, ⟨below_alloc HB.out _⟩⟩
                case round =>
                  clear HR3 BK HB HO HD hx0 hx1 hcz0 hcz1 hcz2 hcz3 hcz4
                  obtain ⟨i, m, met, hi, rfl, hm, ⟨D, HO, HD⟩, HR, BK, HB⟩ := hrel
                  obtain ⟨hcz0, hcz1, hcz2, hcz3, hcz4⟩ := BK.out.cells
                  by_cases hlt : i < x.f1.length
                  · obtain ⟨ad, e0, hcell⟩ := Kd.at_int HI.out (i : Int) (by omega) (by omega)
                    cases e0
                    rw [Int.toNat_natCast] at hcell
                    replace hcell := (HB.out.cell (World.block_lt_of_cell? w _ hcell)).trans hcell
                    have HR1 := HR.out
                    rw [List.drop_eq_getElem_cons hlt, show x.f1[i] = rd x.f1 (i : Int) from by simp [rd, List.getD_eq_getElem?_getD, List.getElem?_eq_getElem hlt]] at HR1
                    have HW := Aside0.mk (HX1.out.2 (x.f1[i]) (List.getElem_mem hlt))
                    rw [show x.f1[i] = rd x.f1 (i : Int) from by simp [rd, List.getD_eq_getElem?_getD, List.getElem?_eq_getElem hlt]] at HW
                    simp only [termsGo] at HR1
                    generalize rd x.f1 (i : Int) = t at *
                    have HR2 := Aside0.mk HR1
                    clear HR1 HR
                    have ht1 : -9223372036854775808 ≤ t := HW.out.1
                    have ht2 : t ≤ 9223372036854775807 := HW.out.2
                    have hwt : (Lit.int .i64 t).wf = true := WalkArith.wf_i64 (by omega)
                    by_cases h3 : 2 ≤ t ∧ t ≤ (l0_0.length : Int) - 1
                    · have HWI : Aside0 (grammar_within.f t 2 ((l0_0.length : Int) - 1) = some true) := ⟨by unfold grammar_within.f; rw [if_pos (by omega)]; simp [h3.2]⟩
                      have HA0 := Aside0.mk (HD.out t)
                      cases hmt : met t with
                      | true =>
                        have HAT : Aside0 (D.atKey (.int .i64 t) (.lit (.int .i64 0)) = .lit (.int .i64 1)) := ⟨by rw [HA0.out, hmt]; rfl⟩
                        obtain rfl : r = 24 := by have := HR2.out; rw [if_neg (by simp [hmt])] at this; exact this.symm
                        clear hmt
                        go_wp2_with (first | (go_at_call 29; refine (grammar_within.calls _ _ _ true _ HWI.out).mono ?_; rintro e w' ⟨rfl, ⟨nd, rfl⟩⟩) | (at_lookup; refine gate_guard (by rfl) ?_; dsimp only; refine wpList_lookup_own_int _ rfl _ _ 51 rfl 3 3 .i64 law_int Tryd.underlying51 Tryd.underlying3 (zero_int _) wo.heap.size m _ rfl (owns_drewN HO.out nd) _ _ rfl (keyOf_int_mk Tryd.underlying3 hwt) ?_; intro c hat hwc; obtain rfl := lit_int_inj HAT.out hat; clear hat))
                        go_ret
                        exact ⟨rfl, pw_below_drewN HB.out _⟩
                      | false =>
                        have HAT : Aside0 (D.atKey (.int .i64 t) (.lit (.int .i64 0)) = .lit (.int .i64 0)) := ⟨by rw [HA0.out, hmt]; rfl⟩
                        have HR3 := HR2.out
                        rw [if_pos ⟨h3.1, h3.2, hmt⟩] at HR3
                        have HR4 := Aside0.mk HR3
                        have hml : m < maxLen := hm.out.lt hlt2 hT4 (by omega)
                        clear hmt HR3 HR2
                        go_wp2_with (first | (go_at_call 29; refine (grammar_within.calls _ _ _ true _ HWI.out).mono ?_; rintro e w' ⟨rfl, ⟨nd, rfl⟩⟩) | (at_lookup; refine gate_guard (by rfl) ?_; dsimp only; refine wpList_lookup_own_int _ rfl _ _ 51 rfl 3 3 .i64 law_int Tryd.underlying51 Tryd.underlying3 (zero_int _) wo.heap.size m _ rfl (owns_drewN HO.out nd) _ _ rfl (keyOf_int_mk Tryd.underlying3 hwt) ?_; intro c hat hwc; obtain rfl := lit_int_inj HAT.out hat; clear hat) | (at_mapUpdate; refine wpList_mapUpdate_own _ rfl _ _ _ 51 rfl 3 3 law_int Tryd.underlying51 _ wo.heap.size m _ rfl (owns_drewN HO.out _) hml _ _ _ rfl rfl (keyOf_int_mk Tryd.underlying3 hwt) _ [] (plainElem_int Tryd.underlying3 (WalkArith.wf_i64 (by omega))) ?_; intro w8 hown1 hgrow1))
                        have R1 := Aside0.mk hown1
                        have hwo : w.heap.size < wo.heap.size := hsz
                        have R2 := Aside0.mk ((pw_below_drewN HB.out _).grown hgrow1 HB.out.size (fun j hj => by cases hj; exact Nat.le_of_lt hwo))
                        have R3 := Aside0.mk (GB.grown (w := wr.drewN _) BK.out hgrow1 (by simpa using Nat.ne_of_lt hwo))
                        clear hown1 hgrow1 hcell hcz0 hcz1 hcz2 hcz3 hcz4
                        go_wp2_with fail
                        go_roundw
                        case rel => exact ⟨i + 1, m + 1, _, by omega, by go_num, ⟨hm.out.step⟩, ⟨_, R1, ⟨HD.out.put HO.out.isMap t⟩⟩, HR4, R3, R2⟩
                        case measure => simp [intOf]; omega
                    · have HWI : Aside0 (grammar_within.f t 2 ((l0_0.length : Int) - 1) = some false) := ⟨within_no h3⟩
                      obtain rfl : r = 24 := by have := HR2.out; rw [if_neg (fun z => h3 ⟨z.1, z.2.1⟩)] at this; exact this.symm
                      go_wp2_with (go_at_call 29; refine (grammar_within.calls _ _ _ false _ HWI.out).mono ?_; rintro e w' ⟨rfl, ⟨nd, rfl⟩⟩)
                      go_ret
                      exact ⟨rfl, pw_below_drewN HB.out _⟩
                  · have hie : i = x.f1.length := by omega
                    have HR1 := HR.out
                    rw [hie, List.drop_of_length_le (Nat.le_refl _)] at HR1
                    simp only [termsGo] at HR1
                    have HR4 := Aside0.mk HR1
                    have hn2 : Aside0 (Cap m (j + 1) 0) := ⟨hm.out.next (by omega)⟩
                    clear HR1 HR hie
                    go_wp2_with fail
                    go_roundw
                    case rel => exact ⟨j + 1, m, met, by omega, by go_num, hn2, ⟨D, HO, HD⟩, HR4, BK, HB⟩
                    case measure => simp [intOf]; omega
              · obtain rfl : r = 24 := by have := HR2.out; rw [if_neg (fun z => h2 z.2)] at this; exact this.symm
                have q1 : decide (x.f0 < 1) = false := decide_eq_false (by omega)
                have q2 : decide (4 < x.f0) = true := decide_eq_true (by omega)
                go_wp2_with fail
                go_ret
                exact ⟨rfl, below_alloc HB.out _⟩
            · obtain rfl : r = 24 := by have := HR2.out; rw [if_neg (fun z => h1 z.1)] at this; exact this.symm
              have q1 : decide (x.f0 < 1) = true := decide_eq_true (by omega)
              go_wp2_with fail
              go_ret
              exact ⟨rfl, below_alloc HB.out _⟩
          · have hje : j = l0_4.length := by omega
            obtain rfl : r = 0 := by have := HR.out; rw [hje, List.drop_of_length_le (Nat.le_refl _)] at this; simpa [levelsGo] using this.symm
            go_wp2_with fail
            go_ret
            exact ⟨rfl, HB.out⟩
end Go.Proofs.YtgchidlombijbaaDoor.H
end
section
namespace Go.Proofs.YtgchidlombijbaaDoor.H
open Go.RowKit Go.Proofs.YtgchidlombijbaaDoorW.PrintWords Go.Proofs.YtgchidlombijbaaDoorW.PrintLast Go.Proofs.YtgchidlombijbaaDoorW.PrintMore
attribute [local go_sem] max2_int min2_int max_two min_two max_three min_three max_four min_four
set_option linter.unusedVariables false
set_option linter.unusedSimpArgs false
mutual
def arboristref15_Few.j1 : Nat → Int → Int → List ByteArray → List ByteArray → List Int → List (S43) → List (S46) → Option (Bool)
 | 0, _, _, _, _, _, _, _ => none
 | k + 1, x1, x5, x152000, x152001, x152002, x152003, x152004 => arboristref15_Few.l1 k x1 x5 0 x152000 x152001 x152002 x152003 x152004
def arboristref15_Few.l1 : Nat → Int → Int → Int → List ByteArray → List ByteArray → List Int → List (S43) → List (S46) → Option (Bool)
 | 0, _, _, _, _, _, _, _, _ => none
 | k + 1, x1, x5, x7, x152000, x152001, x152002, x152003, x152004 => if x7 < (x152004.length : Int) then (if x7 < 50 then (if 0 ≤ x7 then (arboristref15_Few.l1 k x1 (wrap64 (x5 + (((rd_T46 x152004 x7).f1).length : Int))) (wrap64 (x7 + 1)) x152000 x152001 x152002 x152003 x152004) else (none)) else (if (x152003.length : Int) ≤ x1 then (if (x152000.length : Int) ≤ 60 then (if (x152001.length : Int) ≤ 60 then (if (x152002.length : Int) ≤ 60 then (if (x152004.length : Int) ≤ 40 then (some (decide (x5 ≤ (wrap64 ((wrap64 (8 * x1)) + 40))))) else (some false)) else (some false)) else (some false)) else (some false)) else (some false))) else (if (x152003.length : Int) ≤ x1 then (if (x152000.length : Int) ≤ 60 then (if (x152001.length : Int) ≤ 60 then (if (x152002.length : Int) ≤ 60 then (if (x152004.length : Int) ≤ 40 then (some (decide (x5 ≤ (wrap64 ((wrap64 (8 * x1)) + 40))))) else (some false)) else (some false)) else (some false)) else (some false)) else (some false))
def arboristref15_Few.l0 : Nat → Int → Int → Int → List ByteArray → List ByteArray → List Int → List (S43) → List (S46) → Option (Bool)
 | 0, _, _, _, _, _, _, _, _ => none
 | k + 1, x1, x5, x6, x152000, x152001, x152002, x152003, x152004 => if x6 < (x152003.length : Int) then (if x6 ≤ x1 then (if 0 ≤ x6 then (arboristref15_Few.l0 k x1 (wrap64 (x5 + (wrap64 ((((rd_T43 x152003 x6).f1).length : Int) + (((rd_T43 x152003 x6).f2).length : Int))))) (wrap64 (x6 + 1)) x152000 x152001 x152002 x152003 x152004) else (none)) else (arboristref15_Few.j1 k x1 x5 x152000 x152001 x152002 x152003 x152004)) else (arboristref15_Few.j1 k x1 x5 x152000 x152001 x152002 x152003 x152004)
end
def arboristref15_Few.f (k : Nat) (l0_0 : List ByteArray) (l0_1 : List ByteArray) (l0_2 : List Int) (l0_3 : List (S43)) (l0_4 : List (S46)) (a1 : Int) : Option (Bool) := arboristref15_Few.l0 k a1 0 0 l0_0 l0_1 l0_2 l0_3 l0_4
theorem arboristref15_Few.mono_l : ∀ k, (∀ y0 y1 y2 y3 y4 y5 y6, LeO (arboristref15_Few.j1 k y0 y1 y2 y3 y4 y5 y6) (arboristref15_Few.j1 (k + 1) y0 y1 y2 y3 y4 y5 y6)) ∧ (∀ y0 y1 y2 y3 y4 y5 y6 y7, LeO (arboristref15_Few.l1 k y0 y1 y2 y3 y4 y5 y6 y7) (arboristref15_Few.l1 (k + 1) y0 y1 y2 y3 y4 y5 y6 y7)) ∧ (∀ y0 y1 y2 y3 y4 y5 y6 y7, LeO (arboristref15_Few.l0 k y0 y1 y2 y3 y4 y5 y6 y7) (arboristref15_Few.l0 (k + 1) y0 y1 y2 y3 y4 y5 y6 y7))
 | 0 => ⟨fun _ _ _ _ _ _ _ r h => by simp [arboristref15_Few.j1] at h, fun _ _ _ _ _ _ _ _ r h => by simp [arboristref15_Few.l1] at h, fun _ _ _ _ _ _ _ _ r h => by simp [arboristref15_Few.l0] at h⟩
 | k + 1 => by
  (obtain ⟨ih0, ih1, ih2⟩ := arboristref15_Few.mono_l k); (refine ⟨?_, ?_, ?_⟩)
  ·intro y0 y1 y2 y3 y4 y5 y6
   unfold arboristref15_Few.j1
   repeat' first
   | (with_reducible exact ih0 _ _ _ _ _ _ _)
   | (with_reducible exact ih1 _ _ _ _ _ _ _ _)
   | (with_reducible exact ih2 _ _ _ _ _ _ _ _)
   | (with_reducible exact LeO.refl _)
   | (with_reducible exact LeO.none _)
   | (with_reducible refine LeO.ite ?_ ?_)
   | (with_reducible refine LeO.bind ?_ (fun _ => ?_))
   | exact ih0 _ _ _ _ _ _ _
   | exact ih1 _ _ _ _ _ _ _ _
   | exact ih2 _ _ _ _ _ _ _ _
   | exact LeO.none _
   | refine LeO.ite ?_ ?_
   | refine LeO.bind ?_ (fun _ => ?_)
  ·intro y0 y1 y2 y3 y4 y5 y6 y7
   unfold arboristref15_Few.l1
   repeat' first
   | (with_reducible exact ih0 _ _ _ _ _ _ _)
   | (with_reducible exact ih1 _ _ _ _ _ _ _ _)
   | (with_reducible exact ih2 _ _ _ _ _ _ _ _)
   | (with_reducible exact LeO.refl _)
   | (with_reducible exact LeO.none _)
   | (with_reducible refine LeO.ite ?_ ?_)
   | (with_reducible refine LeO.bind ?_ (fun _ => ?_))
   | exact ih0 _ _ _ _ _ _ _
   | exact ih1 _ _ _ _ _ _ _ _
   | exact ih2 _ _ _ _ _ _ _ _
   | exact LeO.none _
   | refine LeO.ite ?_ ?_
   | refine LeO.bind ?_ (fun _ => ?_)
  ·intro y0 y1 y2 y3 y4 y5 y6 y7
   unfold arboristref15_Few.l0
   repeat' first
   | (with_reducible exact ih0 _ _ _ _ _ _ _)
   | (with_reducible exact ih1 _ _ _ _ _ _ _ _)
   | (with_reducible exact ih2 _ _ _ _ _ _ _ _)
   | (with_reducible exact LeO.refl _)
   | (with_reducible exact LeO.none _)
   | (with_reducible refine LeO.ite ?_ ?_)
   | (with_reducible refine LeO.bind ?_ (fun _ => ?_))
   | exact ih0 _ _ _ _ _ _ _
   | exact ih1 _ _ _ _ _ _ _ _
   | exact ih2 _ _ _ _ _ _ _ _
   | exact LeO.none _
   | refine LeO.ite ?_ ?_
   | refine LeO.bind ?_ (fun _ => ?_)
theorem arboristref15_Few.mono : ∀ a0 a1 a2 a3 a4 a5 k, LeO (arboristref15_Few.f k a0 a1 a2 a3 a4 a5) (arboristref15_Few.f (k + 1) a0 a1 a2 a3 a4 a5) := by
 (intro a0 a1 a2 a3 a4 a5 k); (obtain ⟨ih0, ih1, ih2⟩ := arboristref15_Few.mono_l k); (unfold arboristref15_Few.f)
 repeat' first
   | (with_reducible exact ih0 _ _ _ _ _ _ _)
   | (with_reducible exact ih1 _ _ _ _ _ _ _ _)
   | (with_reducible exact ih2 _ _ _ _ _ _ _ _)
   | (with_reducible exact LeO.refl _)
   | (with_reducible exact LeO.none _)
   | (with_reducible refine LeO.ite ?_ ?_)
   | (with_reducible refine LeO.bind ?_ (fun _ => ?_))
   | exact ih0 _ _ _ _ _ _ _
   | exact ih1 _ _ _ _ _ _ _ _
   | exact ih2 _ _ _ _ _ _ _ _
   | exact LeO.none _
   | refine LeO.ite ?_ ?_
   | refine LeO.bind ?_ (fun _ => ?_)
set_option maxHeartbeats 8000000 in
set_option maxRecDepth 100000 in
theorem arboristref15_Few.calls (k : Nat) (A0_0 : Option Addr) (c0_0 : Nat) (l0_0 : List ByteArray) (A0_1 : Option Addr) (c0_1 : Nat) (l0_1 : List ByteArray) (A0_2 : Option Addr) (c0_2 : Nat) (l0_2 : List Int) (A0_3 : Option Addr) (c0_3 : Nat) (l0_3 : List (S43)) (A0_4 : Option Addr) (c0_4 : Nat) (l0_4 : List (S46)) (a1 : Int) (r : Bool) (w : World) (hr0_0 : Kd.C Kd.string w A0_0 l0_0.length l0_0) (hc0_0 : l0_0.length ≤ c0_0) (hr0_1 : Kd.C Kd.string w A0_1 l0_1.length l0_1) (hc0_1 : l0_1.length ≤ c0_1) (hr0_2 : Kd.C (Kd.int .i64) w A0_2 l0_2.length l0_2) (hc0_2 : l0_2.length ≤ c0_2) (hr0_3 : Kd.C k43 w A0_3 l0_3.length l0_3) (hc0_3 : l0_3.length ≤ c0_3) (hr0_4 : Kd.C k46 w A0_4 l0_4.length l0_4) (hc0_4 : l0_4.length ≤ c0_4) (h : arboristref15_Few.f k l0_0 l0_1 l0_2 l0_3 l0_4 a1 = some r) :
  Calls Tryd.prog 7 #[.agg #[.slice A0_0 l0_0.length c0_0, .slice A0_1 l0_1.length c0_1, .slice A0_2 l0_2.length c0_2, .slice A0_3 l0_3.length c0_3, .slice A0_4 l0_4.length c0_4], .int .i64 a1] w fun e w' => e = .returned (.bool r) ∧ Below w.heap.size w w' := by
 (have hu27 := Tryd.underlying27); (have HR0_0 := qM hr0_0); (have HC0_0 := qM hc0_0); clear hr0_0 hc0_0; (have HR0_1 := qM hr0_1); (have HC0_1 := qM hc0_1); clear hr0_1 hc0_1; (have HR0_2 := qM hr0_2); (have HC0_2 := qM hc0_2); clear hr0_2 hc0_2; (have HR0_3 := qM hr0_3); (have HC0_3 := qM hc0_3); clear hr0_3 hc0_3; (have HR0_4 := qM hr0_4); (have HC0_4 := qM hc0_4); clear hr0_4 hc0_4; (have HB := qM (Below.refl w.heap.size w)); (have H : (arboristref15_Few.l0 k a1 0 0 l0_0 l0_1 l0_2 l0_3 l0_4) = some r := h); clear h; (have HC3 := qM H); clear H; (go_enter Tryd.func7, Tryd.ntmps7)
 go_upto_block 0 with (first | ((with_reducible refine gate_dst (N := 2) rfl ?_); (try (refine gate_guard (by rfl) ?_; dsimp only)); refine box_event ?hg (N := 2) ?hd (cs := #[.slice A0_0 l0_0.length c0_0, .slice A0_1 l0_1.length c0_1, .slice A0_2 l0_2.length c0_2, .slice A0_3 l0_3.length c0_3, .slice A0_4 l0_4.length c0_4]) (t := 27) ?hr ?_; (case hd => rfl); (case hg => rfl); (case hr => first | (go_simp; done) | (go_simp; rfl)); intro gb151 hg w4 hbox hb; have n0_ := qM (qP (by repeat (first | (with_reducible first | exact HB.out | apply qA | apply qN | apply qD) | exact HB.out)) hb); have n1_ := qM (hbox); have n2_ := qM ((by rw [hg]; exact (qZ (by repeat (first | (with_reducible first | exact HB.out | apply qA | apply qN | apply qD) | exact HB.out))) : w.heap.size ≤ gb151)); have n3_ := qM ((by rw [hg]; exact (qZ (by repeat (first | (with_reducible first | exact HB.out | apply qA | apply qN | apply qD) | exact HB.out))) : w.heap.size ≤ gb151)); clear HB; have HB := n0_; have BK151 := n1_; have GW151 := n2_; have GE151 := n3_; clear n0_ n1_ n2_ n3_; clear hb hbox hg))
 repeat (go_quiet (first | ((with_reducible refine gate_dst (N := 2) rfl ?_); (try (refine gate_guard (by rfl) ?_; dsimp only)); refine box_event ?hg (N := 2) ?hd (cs := #[.slice A0_0 l0_0.length c0_0, .slice A0_1 l0_1.length c0_1, .slice A0_2 l0_2.length c0_2, .slice A0_3 l0_3.length c0_3, .slice A0_4 l0_4.length c0_4]) (t := 27) ?hr ?_; (case hd => rfl); (case hg => rfl); (case hr => first | (go_simp; done) | (go_simp; rfl)); intro gb151 hg w4 hbox hb; have n0_ := qM (qP (by repeat (first | (with_reducible first | exact HB.out | apply qA | apply qN | apply qD) | exact HB.out)) hb); have n1_ := qM (hbox); have n2_ := qM ((by rw [hg]; exact (qZ (by repeat (first | (with_reducible first | exact HB.out | apply qA | apply qN | apply qD) | exact HB.out))) : w.heap.size ≤ gb151)); have n3_ := qM ((by rw [hg]; exact (qZ (by repeat (first | (with_reducible first | exact HB.out | apply qA | apply qN | apply qD) | exact HB.out))) : w.heap.size ≤ gb151)); clear HB; have HB := n0_; have BK151 := n1_; have GW151 := n2_; have GE151 := n3_; clear n0_ n1_ n2_ n3_; clear hb hbox hg)); go_upto_block 0 with (first | ((with_reducible refine gate_dst (N := 2) rfl ?_); (try (refine gate_guard (by rfl) ?_; dsimp only)); refine box_event ?hg (N := 2) ?hd (cs := #[.slice A0_0 l0_0.length c0_0, .slice A0_1 l0_1.length c0_1, .slice A0_2 l0_2.length c0_2, .slice A0_3 l0_3.length c0_3, .slice A0_4 l0_4.length c0_4]) (t := 27) ?hr ?_; (case hd => rfl); (case hg => rfl); (case hr => first | (go_simp; done) | (go_simp; rfl)); intro gb151 hg w4 hbox hb; have n0_ := qM (qP (by repeat (first | (with_reducible first | exact HB.out | apply qA | apply qN | apply qD) | exact HB.out)) hb); have n1_ := qM (hbox); have n2_ := qM ((by rw [hg]; exact (qZ (by repeat (first | (with_reducible first | exact HB.out | apply qA | apply qN | apply qD) | exact HB.out))) : w.heap.size ≤ gb151)); have n3_ := qM ((by rw [hg]; exact (qZ (by repeat (first | (with_reducible first | exact HB.out | apply qA | apply qN | apply qD) | exact HB.out))) : w.heap.size ≤ gb151)); clear HB; have HB := n0_; have BK151 := n1_; have GW151 := n2_; have GE151 := n3_; clear n0_ n1_ n2_ n3_; clear hb hbox hg)))
 ((try simp only [Act.put, List.setIfInBounds_toArray, List.set_cons_zero, List.set_cons_succ])); (go_cut [5] (fun v5 wc => ∃ (kq : Nat) (x5_2 : Int), v5 = .int .i64 x5_2 ∧ Aside0 (arboristref15_Few.j1 kq a1 x5_2 l0_0 l0_1 l0_2 l0_3 l0_4 = some r) ∧ Aside0 (kq ≤ k) ∧ Aside0 (wc.heap[gb151]? = some (.cells #[(.slice A0_0 l0_0.length c0_0), (.slice A0_1 l0_1.length c0_1), (.slice A0_2 l0_2.length c0_2), (.slice A0_3 l0_3.length c0_3), (.slice A0_4 l0_4.length c0_4)] 27 (0, 0))) ∧ Aside0 (Below w.heap.size w wc)))
 case first =>
  (have H := HC3.out); clear HC3; (have H' := qM H); clear H; go_wp2; (repeat (go_quiet (fail); try go_wp2)); (go_loopg [5, 6] k (fun kq v5 v6 w' => ∃ (x5_1 : Int) (x6_1 : Int), v5 = .int .i64 x5_1 ∧ v6 = .int .i64 x6_1 ∧ Aside0 (arboristref15_Few.l0 kq a1 x5_1 x6_1 l0_0 l0_1 l0_2 l0_3 l0_4 = some r) ∧ Aside0 (kq ≤ k) ∧ Aside0 (w'.heap[gb151]? = some (.cells #[(.slice A0_0 l0_0.length c0_0), (.slice A0_1 l0_1.length c0_1), (.slice A0_2 l0_2.length c0_2), (.slice A0_3 l0_3.length c0_3), (.slice A0_4 l0_4.length c0_4)] 27 (0, 0))) ∧ Aside0 (Below w.heap.size w w')))
  case atStart => exact ⟨(0), (0), (by first | rfl | (simp; done) | (simp [*]; done)), (by first | rfl | (simp; done) | (simp [*]; done)), H', ⟨Nat.le_refl _⟩, ⟨by (with_reducible repeat (first | refine qn ?_ _ | refine qd ?_ | refine qa ?_ _)); exact BK151.out⟩, ⟨by repeat (first | (with_reducible first | exact HB.out | apply qA | apply qN | apply qD | refine qS ?_ GE151.out) | exact HB.out)⟩⟩
  case round =>
   (clear H'); (try clear p2); (obtain ⟨x5_1, x6_1, rfl, rfl, HA, HK1, BK151, HB⟩ := hrel)
   cases gk with
   | zero => exact absurd HA.out (by simp [arboristref15_Few.l0])
   | succ k1 =>
    (have H := HA.out); clear HA; (simp only [arboristref15_Few.l0] at H); (by_cases c5 : x6_1 < (l0_3.length : Int))
    ·rw [if_pos c5] at H
     (have c5b0 : decide (x6_1 < (l0_3.length : Int)) = true := decide_eq_true c5); clear c5; ((first | rw [c5b0] | (simp only [i64_w, i32_w]; rw [c5b0]) | skip)); (by_cases c6 : x6_1 ≤ a1)
     ·rw [if_pos c6] at H
      (have c6b0 : decide (x6_1 ≤ a1) = true := decide_eq_true c6); clear c6; (by_cases c7 : 0 ≤ x6_1)
      ·rw [if_pos c7] at H
       (have c7b0 : decide (0 ≤ x6_1) = true := decide_eq_true c7); clear c7; (have H' := qM H); clear H; (obtain ⟨hcz8_0, hcz8_1, hcz8_2, hcz8_3, hcz8_4, hfz8_0, hfz8_1, hfz8_2, hfz8_3, hfz8_4⟩ := bx5 BK151.out); (have p152 : 0 ≤ (x6_1 : Int) := qo (by first | (with_reducible assumption) | assumption)); (have q152 : x6_1 < (l0_3.length : Int) := qo (by first | (with_reducible assumption) | assumption)); (obtain ⟨ad152, A152_1, c152_1, A152_2, c152_2, e152, hx152_0, hx152_1, hx152_2, hx152_3, hx152_4, hl152_1, hi152_1, hl152_2, hi152_2⟩ := at_T43 HR0_3.out x6_1 p152 q152)
       cases e152
       (replace hx152_0 := (HB.out.cell (qB w _ hx152_0)).trans hx152_0); (replace hx152_1 := (HB.out.cell (qB w _ hx152_1)).trans hx152_1); (replace hx152_2 := (HB.out.cell (qB w _ hx152_2)).trans hx152_2); (replace hx152_3 := (HB.out.cell (qB w _ hx152_3)).trans hx152_3); (replace hx152_4 := (HB.out.cell (qB w _ hx152_4)).trans hx152_4); (have HR152_1 := qM hi152_1); (have HC152_1 := qM hl152_1); clear hi152_1 hl152_1; (have HR152_2 := qM hi152_2); (have HC152_2 := qM hl152_2); clear hi152_2 hl152_2; (replace p152 := eq_true p152); (replace q152 := eq_true q152); (have p153 : 0 ≤ (x6_1 : Int) := qo (by first | (with_reducible assumption) | assumption)); (have q153 : x6_1 < (l0_3.length : Int) := qo (by first | (with_reducible assumption) | assumption)); (obtain ⟨ad153, A153_1, c153_1, A153_2, c153_2, e153, hx153_0, hx153_1, hx153_2, hx153_3, hx153_4, hl153_1, hi153_1, hl153_2, hi153_2⟩ := at_T43 HR0_3.out x6_1 p153 q153); (obtain rfl : ad152 = ad153 := (by injection e153)); (replace hx153_0 := (HB.out.cell (qB w _ hx153_0)).trans hx153_0); (replace hx153_1 := (HB.out.cell (qB w _ hx153_1)).trans hx153_1); (replace hx153_2 := (HB.out.cell (qB w _ hx153_2)).trans hx153_2); (replace hx153_3 := (HB.out.cell (qB w _ hx153_3)).trans hx153_3); (replace hx153_4 := (HB.out.cell (qB w _ hx153_4)).trans hx153_4); (have HR153_1 := qM hi153_1); (have HC153_1 := qM hl153_1); clear hi153_1 hl153_1; (have HR153_2 := qM hi153_2); (have HC153_2 := qM hl153_2); clear hi153_2 hl153_2; (replace p153 := eq_true p153); (replace q153 := eq_true q153); (have ea_ := Option.some.inj (hx152_1.symm.trans hx153_1)); (injection ea_ with ea_ en_ ec_); subst ea_; subst ec_; clear en_; (have ea_ := Option.some.inj (hx152_2.symm.trans hx153_2)); (injection ea_ with ea_ en_ ec_); subst ea_; subst ec_; clear en_; go_wp2; (repeat (go_quiet (fail); try go_wp2)); (go_roundg k1)
       case measure => have := HK1.out; omega
       case rel => exact ⟨(wrap64 (x5_1 + (wrap64 ((((rd_T43 l0_3 x6_1).f1).length : Int) + (((rd_T43 l0_3 x6_1).f2).length : Int))))), (wrap64 (x6_1 + 1)), (by first | rfl | (simp; done) | (simp [*]; done)), (by first | rfl | (simp; done) | (simp [*]; done)), H', ⟨by have := HK1.out; omega⟩, ⟨by (with_reducible repeat (first | refine qn ?_ _ | refine qd ?_ | refine qa ?_ _)); exact BK151.out⟩, ⟨by repeat (first | (with_reducible first | exact HB.out | apply qA | apply qN | apply qD | refine qS ?_ GE151.out) | exact HB.out)⟩⟩
      ·rw [if_neg c7] at H
       exact absurd H (by simp)
     ·rw [if_neg c6] at H
      (have c6b0 : decide (x6_1 ≤ a1) = false := decide_eq_false c6); clear c6; (have H' := qM H); clear H; (obtain ⟨hcz9_0, hcz9_1, hcz9_2, hcz9_3, hcz9_4, hfz9_0, hfz9_1, hfz9_2, hfz9_3, hfz9_4⟩ := bx5 BK151.out); go_wp2; (repeat (go_quiet (fail); try go_wp2)); go_meet
      case rel => exact ⟨_, (x5_1), (by first | rfl | (simp; done) | (simp [*]; done)), H', ⟨by have := HK1.out; first | omega | exact Nat.le_refl _⟩, ⟨by (with_reducible repeat (first | refine qn ?_ _ | refine qd ?_ | refine qa ?_ _)); exact BK151.out⟩, ⟨by repeat (first | (with_reducible first | exact HB.out | apply qA | apply qN | apply qD | refine qS ?_ GE151.out) | exact HB.out)⟩⟩
    ·rw [if_neg c5] at H
     (have c5b0 : decide (x6_1 < (l0_3.length : Int)) = false := decide_eq_false c5); clear c5; ((first | rw [c5b0] | (simp only [i64_w, i32_w]; rw [c5b0]) | skip)); (have H' := qM H); clear H; (obtain ⟨hcz10_0, hcz10_1, hcz10_2, hcz10_3, hcz10_4, hfz10_0, hfz10_1, hfz10_2, hfz10_3, hfz10_4⟩ := bx5 BK151.out); go_wp2; (repeat (go_quiet (fail); try go_wp2)); go_meet
     case rel => exact ⟨_, (x5_1), (by first | rfl | (simp; done) | (simp [*]; done)), H', ⟨by have := HK1.out; first | omega | exact Nat.le_refl _⟩, ⟨by (with_reducible repeat (first | refine qn ?_ _ | refine qd ?_ | refine qa ?_ _)); exact BK151.out⟩, ⟨by repeat (first | (with_reducible first | exact HB.out | apply qA | apply qN | apply qD | refine qS ?_ GE151.out) | exact HB.out)⟩⟩
 case rest =>
  clear HC3; (try clear c1); (try clear p1); (try clear q1); (try clear hx1); (try clear p2); (try clear c5); (try clear c5b0); (try clear c6); (try clear c6b0); (try clear p6); (try clear c7); (try clear c7b0); (try clear hcz10_0 hcz10_1 hcz10_2 hcz10_3 hcz10_4); (try clear hcz8_0 hcz8_1 hcz8_2 hcz8_3 hcz8_4); (try clear hcz9_0 hcz9_1 hcz9_2 hcz9_3 hcz9_4); (try clear hfz10_0 hfz10_1 hfz10_2 hfz10_3 hfz10_4); (try clear hfz8_0 hfz8_1 hfz8_2 hfz8_3 hfz8_4); (try clear hfz9_0 hfz9_1 hfz9_2 hfz9_3 hfz9_4); (try clear hx152_0 hx152_1 hx152_2 hx152_3 hx152_4); (try clear hx153_0 hx153_1 hx153_2 hx153_3 hx153_4); (try clear p152); (try clear p153); (try clear p2); (try clear q152); (try clear q153); (obtain ⟨kq, x5_2, rfl, HA, HJ2, BK151, HB⟩ := hcut)
  cases kq with
  | zero => exact absurd HA.out (by simp [arboristref15_Few.j1])
  | succ kj2 =>
   (have H := HA.out); clear HA; (simp only [arboristref15_Few.j1] at H); (have H' := qM H); clear H; go_wp2; (repeat (go_quiet (fail); try go_wp2)); (go_loopg [5, 7] kj2 (fun kq v5 v7 w' => ∃ (x5_2 : Int) (x7_2 : Int), v5 = .int .i64 x5_2 ∧ v7 = .int .i64 x7_2 ∧ Aside0 (arboristref15_Few.l1 kq a1 x5_2 x7_2 l0_0 l0_1 l0_2 l0_3 l0_4 = some r) ∧ Aside0 (kq ≤ kj2) ∧ Aside0 (w'.heap[gb151]? = some (.cells #[(.slice A0_0 l0_0.length c0_0), (.slice A0_1 l0_1.length c0_1), (.slice A0_2 l0_2.length c0_2), (.slice A0_3 l0_3.length c0_3), (.slice A0_4 l0_4.length c0_4)] 27 (0, 0))) ∧ Aside0 (Below w.heap.size w w')))
   case atStart => exact ⟨(x5_2), (0), (by first | rfl | (simp; done) | (simp [*]; done)), (by first | rfl | (simp; done) | (simp [*]; done)), H', ⟨Nat.le_refl _⟩, ⟨by (with_reducible repeat (first | refine qn ?_ _ | refine qd ?_ | refine qa ?_ _)); exact BK151.out⟩, ⟨by repeat (first | (with_reducible first | exact HB.out | apply qA | apply qN | apply qD | refine qS ?_ GE151.out) | exact HB.out)⟩⟩
   case round =>
    (clear H'); (try clear c1); (try clear p1); (try clear q1); (try clear hx1); (try clear p2); (try clear c5); (try clear c5b0); (try clear c6); (try clear c6b0); (try clear p6); (try clear c7); (try clear c7b0); (try clear hcz10_0 hcz10_1 hcz10_2 hcz10_3 hcz10_4); (try clear hcz8_0 hcz8_1 hcz8_2 hcz8_3 hcz8_4); (try clear hcz9_0 hcz9_1 hcz9_2 hcz9_3 hcz9_4); (try clear hfz10_0 hfz10_1 hfz10_2 hfz10_3 hfz10_4); (try clear hfz8_0 hfz8_1 hfz8_2 hfz8_3 hfz8_4); (try clear hfz9_0 hfz9_1 hfz9_2 hfz9_3 hfz9_4); (try clear hx152_0 hx152_1 hx152_2 hx152_3 hx152_4); (try clear hx153_0 hx153_1 hx153_2 hx153_3 hx153_4); (try clear p1); (try clear p152); (try clear p153); (try clear p2); (try clear p6); (try clear q1); (try clear q152); (try clear q153); (obtain ⟨x5_2, x7_2, rfl, rfl, HA, HK2, BK151, HB⟩ := hrel)
    cases gk with
    | zero => exact absurd HA.out (by simp [arboristref15_Few.l1])
    | succ k2 =>
     (have H := HA.out); clear HA; (simp only [arboristref15_Few.l1] at H); (by_cases c11 : x7_2 < (l0_4.length : Int))
     ·rw [if_pos c11] at H
      (have c11b0 : decide (x7_2 < (l0_4.length : Int)) = true := decide_eq_true c11); clear c11; (by_cases c12 : x7_2 < 50)
      ·rw [if_pos c12] at H
       (have c12b0 : decide (x7_2 < 50) = true := decide_eq_true c12); clear c12; (by_cases c13 : 0 ≤ x7_2)
       ·rw [if_pos c13] at H
        (have c13b0 : decide (0 ≤ x7_2) = true := decide_eq_true c13); clear c13; (have H' := qM H); clear H; (obtain ⟨hcz14_0, hcz14_1, hcz14_2, hcz14_3, hcz14_4, hfz14_0, hfz14_1, hfz14_2, hfz14_3, hfz14_4⟩ := bx5 BK151.out); (have p154 : 0 ≤ (x7_2 : Int) := qo (by first | (with_reducible assumption) | assumption)); (have q154 : x7_2 < (l0_4.length : Int) := qo (by first | (with_reducible assumption) | assumption)); (obtain ⟨ad154, A154_1, c154_1, e154, hx154_0, hx154_1, hl154_1, hi154_1⟩ := at_T46 HR0_4.out x7_2 p154 q154)
        cases e154
        (replace hx154_0 := (HB.out.cell (qB w _ hx154_0)).trans hx154_0); (replace hx154_1 := (HB.out.cell (qB w _ hx154_1)).trans hx154_1); (have HR154_1 := qM hi154_1); (have HC154_1 := qM hl154_1); clear hi154_1 hl154_1; (replace p154 := eq_true p154); (replace q154 := eq_true q154); go_wp2; (repeat (go_quiet (fail); try go_wp2)); (go_roundg k2)
        case measure => have := HJ2.out; have := HK2.out; omega
        case rel => exact ⟨(wrap64 (x5_2 + (((rd_T46 l0_4 x7_2).f1).length : Int))), (wrap64 (x7_2 + 1)), (by first | rfl | (simp; done) | (simp [*]; done)), (by first | rfl | (simp; done) | (simp [*]; done)), H', ⟨by have := HJ2.out; have := HK2.out; omega⟩, ⟨by (with_reducible repeat (first | refine qn ?_ _ | refine qd ?_ | refine qa ?_ _)); exact BK151.out⟩, ⟨by repeat (first | (with_reducible first | exact HB.out | apply qA | apply qN | apply qD | refine qS ?_ GE151.out) | exact HB.out)⟩⟩
       ·rw [if_neg c13] at H
        exact absurd H (by simp)
      ·rw [if_neg c12] at H
       (have c12b0 : decide (x7_2 < 50) = false := decide_eq_false c12); clear c12; (by_cases c15 : (l0_3.length : Int) ≤ a1)
       ·rw [if_pos c15] at H
        (have c15b0 : decide ((l0_3.length : Int) ≤ a1) = true := decide_eq_true c15); clear c15; (by_cases c16 : (l0_0.length : Int) ≤ 60)
        ·rw [if_pos c16] at H
         (have c16b0 : decide ((l0_0.length : Int) ≤ 60) = true := decide_eq_true c16); (have c16b1 : decide (l0_0.length ≤ 60) = true := decide_eq_true (by omega)); clear c16; (by_cases c17 : (l0_1.length : Int) ≤ 60)
         ·rw [if_pos c17] at H
          (have c17b0 : decide ((l0_1.length : Int) ≤ 60) = true := decide_eq_true c17); (have c17b1 : decide (l0_1.length ≤ 60) = true := decide_eq_true (by omega)); clear c17; (by_cases c18 : (l0_2.length : Int) ≤ 60)
          ·rw [if_pos c18] at H
           (have c18b0 : decide ((l0_2.length : Int) ≤ 60) = true := decide_eq_true c18); (have c18b1 : decide (l0_2.length ≤ 60) = true := decide_eq_true (by omega)); clear c18; (by_cases c19 : (l0_4.length : Int) ≤ 40)
           ·rw [if_pos c19] at H
            (have c19b0 : decide ((l0_4.length : Int) ≤ 40) = true := decide_eq_true c19); (have c19b1 : decide (l0_4.length ≤ 40) = true := decide_eq_true (by omega)); clear c19; (obtain rfl := Option.some.inj H); (obtain ⟨hcz20_0, hcz20_1, hcz20_2, hcz20_3, hcz20_4, hfz20_0, hfz20_1, hfz20_2, hfz20_3, hfz20_4⟩ := bx5 BK151.out); go_wp2; (repeat (go_quiet (fail); try go_wp2)); (go_ret); (exact ⟨by first | rfl | (simp [errW_none, errW_some] <;> rfl) | (simp [*, errW_none, errW_some] <;> rfl), by repeat (first | (with_reducible first | exact HB.out | apply qA | apply qN | apply qD | refine qS ?_ GE151.out) | exact HB.out)⟩)
           ·rw [if_neg c19] at H
            (have c19b0 : decide ((l0_4.length : Int) ≤ 40) = false := decide_eq_false c19); (have c19b1 : decide (l0_4.length ≤ 40) = false := decide_eq_false (by omega)); clear c19; (obtain rfl := Option.some.inj H); (obtain ⟨hcz21_0, hcz21_1, hcz21_2, hcz21_3, hcz21_4, hfz21_0, hfz21_1, hfz21_2, hfz21_3, hfz21_4⟩ := bx5 BK151.out); go_wp2; (repeat (go_quiet (fail); try go_wp2)); (go_ret); (exact ⟨by first | rfl | (simp [errW_none, errW_some] <;> rfl) | (simp [*, errW_none, errW_some] <;> rfl), by repeat (first | (with_reducible first | exact HB.out | apply qA | apply qN | apply qD | refine qS ?_ GE151.out) | exact HB.out)⟩)
          ·rw [if_neg c18] at H
           (have c18b0 : decide ((l0_2.length : Int) ≤ 60) = false := decide_eq_false c18); (have c18b1 : decide (l0_2.length ≤ 60) = false := decide_eq_false (by omega)); clear c18; (obtain rfl := Option.some.inj H); (obtain ⟨hcz22_0, hcz22_1, hcz22_2, hcz22_3, hcz22_4, hfz22_0, hfz22_1, hfz22_2, hfz22_3, hfz22_4⟩ := bx5 BK151.out); go_wp2; (repeat (go_quiet (fail); try go_wp2)); (go_ret); (exact ⟨by first | rfl | (simp [errW_none, errW_some] <;> rfl) | (simp [*, errW_none, errW_some] <;> rfl), by repeat (first | (with_reducible first | exact HB.out | apply qA | apply qN | apply qD | refine qS ?_ GE151.out) | exact HB.out)⟩)
         ·rw [if_neg c17] at H
          (have c17b0 : decide ((l0_1.length : Int) ≤ 60) = false := decide_eq_false c17); (have c17b1 : decide (l0_1.length ≤ 60) = false := decide_eq_false (by omega)); clear c17; (obtain rfl := Option.some.inj H); (obtain ⟨hcz23_0, hcz23_1, hcz23_2, hcz23_3, hcz23_4, hfz23_0, hfz23_1, hfz23_2, hfz23_3, hfz23_4⟩ := bx5 BK151.out); go_wp2; (repeat (go_quiet (fail); try go_wp2)); (go_ret); (exact ⟨by first | rfl | (simp [errW_none, errW_some] <;> rfl) | (simp [*, errW_none, errW_some] <;> rfl), by repeat (first | (with_reducible first | exact HB.out | apply qA | apply qN | apply qD | refine qS ?_ GE151.out) | exact HB.out)⟩)
        ·rw [if_neg c16] at H
         (have c16b0 : decide ((l0_0.length : Int) ≤ 60) = false := decide_eq_false c16); (have c16b1 : decide (l0_0.length ≤ 60) = false := decide_eq_false (by omega)); clear c16; (obtain rfl := Option.some.inj H); (obtain ⟨hcz24_0, hcz24_1, hcz24_2, hcz24_3, hcz24_4, hfz24_0, hfz24_1, hfz24_2, hfz24_3, hfz24_4⟩ := bx5 BK151.out); go_wp2; (repeat (go_quiet (fail); try go_wp2)); (go_ret); (exact ⟨by first | rfl | (simp [errW_none, errW_some] <;> rfl) | (simp [*, errW_none, errW_some] <;> rfl), by repeat (first | (with_reducible first | exact HB.out | apply qA | apply qN | apply qD | refine qS ?_ GE151.out) | exact HB.out)⟩)
       ·rw [if_neg c15] at H
        (have c15b0 : decide ((l0_3.length : Int) ≤ a1) = false := decide_eq_false c15); clear c15; (obtain rfl := Option.some.inj H); (obtain ⟨hcz25_0, hcz25_1, hcz25_2, hcz25_3, hcz25_4, hfz25_0, hfz25_1, hfz25_2, hfz25_3, hfz25_4⟩ := bx5 BK151.out); go_wp2; (repeat (go_quiet (fail); try go_wp2)); (go_ret); (exact ⟨by first | rfl | (simp [errW_none, errW_some] <;> rfl) | (simp [*, errW_none, errW_some] <;> rfl), by repeat (first | (with_reducible first | exact HB.out | apply qA | apply qN | apply qD | refine qS ?_ GE151.out) | exact HB.out)⟩)
     ·rw [if_neg c11] at H
      (have c11b0 : decide (x7_2 < (l0_4.length : Int)) = false := decide_eq_false c11); clear c11; (by_cases c26 : (l0_3.length : Int) ≤ a1)
      ·rw [if_pos c26] at H
       (have c26b0 : decide ((l0_3.length : Int) ≤ a1) = true := decide_eq_true c26); clear c26; (by_cases c27 : (l0_0.length : Int) ≤ 60)
       ·rw [if_pos c27] at H
        (have c27b0 : decide ((l0_0.length : Int) ≤ 60) = true := decide_eq_true c27); (have c27b1 : decide (l0_0.length ≤ 60) = true := decide_eq_true (by omega)); clear c27; (by_cases c28 : (l0_1.length : Int) ≤ 60)
        ·rw [if_pos c28] at H
         (have c28b0 : decide ((l0_1.length : Int) ≤ 60) = true := decide_eq_true c28); (have c28b1 : decide (l0_1.length ≤ 60) = true := decide_eq_true (by omega)); clear c28; (by_cases c29 : (l0_2.length : Int) ≤ 60)
         ·rw [if_pos c29] at H
          (have c29b0 : decide ((l0_2.length : Int) ≤ 60) = true := decide_eq_true c29); (have c29b1 : decide (l0_2.length ≤ 60) = true := decide_eq_true (by omega)); clear c29; (by_cases c30 : (l0_4.length : Int) ≤ 40)
          ·rw [if_pos c30] at H
           (have c30b0 : decide ((l0_4.length : Int) ≤ 40) = true := decide_eq_true c30); (have c30b1 : decide (l0_4.length ≤ 40) = true := decide_eq_true (by omega)); clear c30; (obtain rfl := Option.some.inj H); (obtain ⟨hcz31_0, hcz31_1, hcz31_2, hcz31_3, hcz31_4, hfz31_0, hfz31_1, hfz31_2, hfz31_3, hfz31_4⟩ := bx5 BK151.out); go_wp2; (repeat (go_quiet (fail); try go_wp2)); (go_ret); (exact ⟨by first | rfl | (simp [errW_none, errW_some] <;> rfl) | (simp [*, errW_none, errW_some] <;> rfl), by repeat (first | (with_reducible first | exact HB.out | apply qA | apply qN | apply qD | refine qS ?_ GE151.out) | exact HB.out)⟩)
          ·rw [if_neg c30] at H
           (have c30b0 : decide ((l0_4.length : Int) ≤ 40) = false := decide_eq_false c30); (have c30b1 : decide (l0_4.length ≤ 40) = false := decide_eq_false (by omega)); clear c30; (obtain rfl := Option.some.inj H); (obtain ⟨hcz32_0, hcz32_1, hcz32_2, hcz32_3, hcz32_4, hfz32_0, hfz32_1, hfz32_2, hfz32_3, hfz32_4⟩ := bx5 BK151.out); go_wp2; (repeat (go_quiet (fail); try go_wp2)); (go_ret); (exact ⟨by first | rfl | (simp [errW_none, errW_some] <;> rfl) | (simp [*, errW_none, errW_some] <;> rfl), by repeat (first | (with_reducible first | exact HB.out | apply qA | apply qN | apply qD | refine qS ?_ GE151.out) | exact HB.out)⟩)
         ·rw [if_neg c29] at H
          (have c29b0 : decide ((l0_2.length : Int) ≤ 60) = false := decide_eq_false c29); (have c29b1 : decide (l0_2.length ≤ 60) = false := decide_eq_false (by omega)); clear c29; (obtain rfl := Option.some.inj H); (obtain ⟨hcz33_0, hcz33_1, hcz33_2, hcz33_3, hcz33_4, hfz33_0, hfz33_1, hfz33_2, hfz33_3, hfz33_4⟩ := bx5 BK151.out); go_wp2; (repeat (go_quiet (fail); try go_wp2)); (go_ret); (exact ⟨by first | rfl | (simp [errW_none, errW_some] <;> rfl) | (simp [*, errW_none, errW_some] <;> rfl), by repeat (first | (with_reducible first | exact HB.out | apply qA | apply qN | apply qD | refine qS ?_ GE151.out) | exact HB.out)⟩)
        ·rw [if_neg c28] at H
         (have c28b0 : decide ((l0_1.length : Int) ≤ 60) = false := decide_eq_false c28); (have c28b1 : decide (l0_1.length ≤ 60) = false := decide_eq_false (by omega)); clear c28; (obtain rfl := Option.some.inj H); (obtain ⟨hcz34_0, hcz34_1, hcz34_2, hcz34_3, hcz34_4, hfz34_0, hfz34_1, hfz34_2, hfz34_3, hfz34_4⟩ := bx5 BK151.out); go_wp2; (repeat (go_quiet (fail); try go_wp2)); (go_ret); (exact ⟨by first | rfl | (simp [errW_none, errW_some] <;> rfl) | (simp [*, errW_none, errW_some] <;> rfl), by repeat (first | (with_reducible first | exact HB.out | apply qA | apply qN | apply qD | refine qS ?_ GE151.out) | exact HB.out)⟩)
       ·rw [if_neg c27] at H
        (have c27b0 : decide ((l0_0.length : Int) ≤ 60) = false := decide_eq_false c27); (have c27b1 : decide (l0_0.length ≤ 60) = false := decide_eq_false (by omega)); clear c27; (obtain rfl := Option.some.inj H); (obtain ⟨hcz35_0, hcz35_1, hcz35_2, hcz35_3, hcz35_4, hfz35_0, hfz35_1, hfz35_2, hfz35_3, hfz35_4⟩ := bx5 BK151.out); go_wp2; (repeat (go_quiet (fail); try go_wp2)); (go_ret); (exact ⟨by first | rfl | (simp [errW_none, errW_some] <;> rfl) | (simp [*, errW_none, errW_some] <;> rfl), by repeat (first | (with_reducible first | exact HB.out | apply qA | apply qN | apply qD | refine qS ?_ GE151.out) | exact HB.out)⟩)
      ·rw [if_neg c26] at H
       (have c26b0 : decide ((l0_3.length : Int) ≤ a1) = false := decide_eq_false c26); clear c26; (obtain rfl := Option.some.inj H); (obtain ⟨hcz36_0, hcz36_1, hcz36_2, hcz36_3, hcz36_4, hfz36_0, hfz36_1, hfz36_2, hfz36_3, hfz36_4⟩ := bx5 BK151.out); go_wp2; (repeat (go_quiet (fail); try go_wp2)); (go_ret); (exact ⟨by first | rfl | (simp [errW_none, errW_some] <;> rfl) | (simp [*, errW_none, errW_some] <;> rfl), by repeat (first | (with_reducible first | exact HB.out | apply qA | apply qN | apply qD | refine qS ?_ GE151.out) | exact HB.out)⟩)
mutual
def arboristref15_counts.j0 : Nat → Bool → List ByteArray → List ByteArray → List Int → List (S43) → List (S46) → Option (Bool)
 | 0, _, _, _, _, _, _ => none
 | k + 1, x36, x249000, x249001, x249002, x249003, x249004 => if x36 = true then (some true) else (arboristref15_counts.l0 k 0 x249000 x249001 x249002 x249003 x249004)
def arboristref15_counts.l0 : Nat → Int → List ByteArray → List ByteArray → List Int → List (S43) → List (S46) → Option (Bool)
 | 0, _, _, _, _, _, _ => none
 | k + 1, x3, x249000, x249001, x249002, x249003, x249004 => if x3 < (x249002.length : Int) then (if 0 ≤ x3 then (if (rd x249002 x3) < 0 then (some true) else (if (rd x249002 x3) > 5 then (some true) else (arboristref15_counts.l0 k (wrap64 (x3 + 1)) x249000 x249001 x249002 x249003 x249004))) else (none)) else (arboristref15_counts.l1 k 0 0 x249000 x249001 x249002 x249003 x249004)
def arboristref15_counts.l1 : Nat → Int → Int → List ByteArray → List ByteArray → List Int → List (S43) → List (S46) → Option (Bool)
 | 0, _, _, _, _, _, _, _ => none
 | k + 1, x4, x5, x249000, x249001, x249002, x249003, x249004 => if x5 < (x249003.length : Int) then (if 0 ≤ x5 then (arboristref15_counts.l1 k (wrap64 (x4 + (((rd_T43 x249003 x5).f1).length : Int))) (wrap64 (x5 + 1)) x249000 x249001 x249002 x249003 x249004) else (none)) else (if (x249003.length : Int) < 1 then (some true) else (if (x249003.length : Int) > 1024 then (some true) else (if (x249004.length : Int) > 32 then (some true) else (some (decide (x4 > 8192))))))
end
def arboristref15_counts.f (k : Nat) (l0_0 : List ByteArray) (l0_1 : List ByteArray) (l0_2 : List Int) (l0_3 : List (S43)) (l0_4 : List (S46)) : Option (Bool) := if (l0_0.length : Int) < 2 then (arboristref15_counts.j0 k true l0_0 l0_1 l0_2 l0_3 l0_4) else (if (l0_0.length : Int) > 256 then (arboristref15_counts.j0 k true l0_0 l0_1 l0_2 l0_3 l0_4) else (if (l0_1.length : Int) < 1 then (arboristref15_counts.j0 k true l0_0 l0_1 l0_2 l0_3 l0_4) else (if (l0_1.length : Int) > 512 then (arboristref15_counts.j0 k true l0_0 l0_1 l0_2 l0_3 l0_4) else (arboristref15_counts.j0 k ((l0_2.length : Int) != (l0_1.length : Int)) l0_0 l0_1 l0_2 l0_3 l0_4))))
theorem arboristref15_counts.mono_l : ∀ k, (∀ y0 y1 y2 y3 y4 y5, LeO (arboristref15_counts.j0 k y0 y1 y2 y3 y4 y5) (arboristref15_counts.j0 (k + 1) y0 y1 y2 y3 y4 y5)) ∧ (∀ y0 y1 y2 y3 y4 y5, LeO (arboristref15_counts.l0 k y0 y1 y2 y3 y4 y5) (arboristref15_counts.l0 (k + 1) y0 y1 y2 y3 y4 y5)) ∧ (∀ y0 y1 y2 y3 y4 y5 y6, LeO (arboristref15_counts.l1 k y0 y1 y2 y3 y4 y5 y6) (arboristref15_counts.l1 (k + 1) y0 y1 y2 y3 y4 y5 y6))
 | 0 => ⟨fun _ _ _ _ _ _ r h => by simp [arboristref15_counts.j0] at h, fun _ _ _ _ _ _ r h => by simp [arboristref15_counts.l0] at h, fun _ _ _ _ _ _ _ r h => by simp [arboristref15_counts.l1] at h⟩
 | k + 1 => by
  (obtain ⟨ih0, ih1, ih2⟩ := arboristref15_counts.mono_l k); (refine ⟨?_, ?_, ?_⟩)
  ·intro y0 y1 y2 y3 y4 y5
   unfold arboristref15_counts.j0
   repeat' first
   | (with_reducible exact ih0 _ _ _ _ _ _)
   | (with_reducible exact ih1 _ _ _ _ _ _)
   | (with_reducible exact ih2 _ _ _ _ _ _ _)
   | (with_reducible exact LeO.refl _)
   | (with_reducible exact LeO.none _)
   | (with_reducible refine LeO.ite ?_ ?_)
   | (with_reducible refine LeO.bind ?_ (fun _ => ?_))
   | exact ih0 _ _ _ _ _ _
   | exact ih1 _ _ _ _ _ _
   | exact ih2 _ _ _ _ _ _ _
   | exact LeO.none _
   | refine LeO.ite ?_ ?_
   | refine LeO.bind ?_ (fun _ => ?_)
  ·intro y0 y1 y2 y3 y4 y5
   unfold arboristref15_counts.l0
   repeat' first
   | (with_reducible exact ih0 _ _ _ _ _ _)
   | (with_reducible exact ih1 _ _ _ _ _ _)
   | (with_reducible exact ih2 _ _ _ _ _ _ _)
   | (with_reducible exact LeO.refl _)
   | (with_reducible exact LeO.none _)
   | (with_reducible refine LeO.ite ?_ ?_)
   | (with_reducible refine LeO.bind ?_ (fun _ => ?_))
   | exact ih0 _ _ _ _ _ _
   | exact ih1 _ _ _ _ _ _
   | exact ih2 _ _ _ _ _ _ _
   | exact LeO.none _
   | refine LeO.ite ?_ ?_
   | refine LeO.bind ?_ (fun _ => ?_)
  ·intro y0 y1 y2 y3 y4 y5 y6
   unfold arboristref15_counts.l1
   repeat' first
   | (with_reducible exact ih0 _ _ _ _ _ _)
   | (with_reducible exact ih1 _ _ _ _ _ _)
   | (with_reducible exact ih2 _ _ _ _ _ _ _)
   | (with_reducible exact LeO.refl _)
   | (with_reducible exact LeO.none _)
   | (with_reducible refine LeO.ite ?_ ?_)
   | (with_reducible refine LeO.bind ?_ (fun _ => ?_))
   | exact ih0 _ _ _ _ _ _
   | exact ih1 _ _ _ _ _ _
   | exact ih2 _ _ _ _ _ _ _
   | exact LeO.none _
   | refine LeO.ite ?_ ?_
   | refine LeO.bind ?_ (fun _ => ?_)
theorem arboristref15_counts.mono : ∀ a0 a1 a2 a3 a4 k, LeO (arboristref15_counts.f k a0 a1 a2 a3 a4) (arboristref15_counts.f (k + 1) a0 a1 a2 a3 a4) := by
 (intro a0 a1 a2 a3 a4 k); (obtain ⟨ih0, ih1, ih2⟩ := arboristref15_counts.mono_l k); (unfold arboristref15_counts.f)
 repeat' first
   | (with_reducible exact ih0 _ _ _ _ _ _)
   | (with_reducible exact ih1 _ _ _ _ _ _)
   | (with_reducible exact ih2 _ _ _ _ _ _ _)
   | (with_reducible exact LeO.refl _)
   | (with_reducible exact LeO.none _)
   | (with_reducible refine LeO.ite ?_ ?_)
   | (with_reducible refine LeO.bind ?_ (fun _ => ?_))
   | exact ih0 _ _ _ _ _ _
   | exact ih1 _ _ _ _ _ _
   | exact ih2 _ _ _ _ _ _ _
   | exact LeO.none _
   | refine LeO.ite ?_ ?_
   | refine LeO.bind ?_ (fun _ => ?_)
set_option maxHeartbeats 8000000 in
set_option maxRecDepth 100000 in
theorem arboristref15_counts.calls (k : Nat) (A0_0 : Option Addr) (c0_0 : Nat) (l0_0 : List ByteArray) (A0_1 : Option Addr) (c0_1 : Nat) (l0_1 : List ByteArray) (A0_2 : Option Addr) (c0_2 : Nat) (l0_2 : List Int) (A0_3 : Option Addr) (c0_3 : Nat) (l0_3 : List (S43)) (A0_4 : Option Addr) (c0_4 : Nat) (l0_4 : List (S46)) (r : Bool) (w : World) (hr0_0 : Kd.C Kd.string w A0_0 l0_0.length l0_0) (hc0_0 : l0_0.length ≤ c0_0) (hr0_1 : Kd.C Kd.string w A0_1 l0_1.length l0_1) (hc0_1 : l0_1.length ≤ c0_1) (hr0_2 : Kd.C (Kd.int .i64) w A0_2 l0_2.length l0_2) (hc0_2 : l0_2.length ≤ c0_2) (hr0_3 : Kd.C k43 w A0_3 l0_3.length l0_3) (hc0_3 : l0_3.length ≤ c0_3) (hr0_4 : Kd.C k46 w A0_4 l0_4.length l0_4) (hc0_4 : l0_4.length ≤ c0_4) (h : arboristref15_counts.f k l0_0 l0_1 l0_2 l0_3 l0_4 = some r) :
  Calls Tryd.prog 30 #[.agg #[.slice A0_0 l0_0.length c0_0, .slice A0_1 l0_1.length c0_1, .slice A0_2 l0_2.length c0_2, .slice A0_3 l0_3.length c0_3, .slice A0_4 l0_4.length c0_4]] w fun e w' => e = .returned (.bool r) ∧ Below w.heap.size w w' := by
 (have hu27 := Tryd.underlying27); (have HR0_0 := qM hr0_0); (have HC0_0 := qM hc0_0); clear hr0_0 hc0_0; (have HR0_1 := qM hr0_1); (have HC0_1 := qM hc0_1); clear hr0_1 hc0_1; (have HR0_2 := qM hr0_2); (have HC0_2 := qM hc0_2); clear hr0_2 hc0_2; (have HR0_3 := qM hr0_3); (have HC0_3 := qM hc0_3); clear hr0_3 hc0_3; (have HR0_4 := qM hr0_4); (have HC0_4 := qM hc0_4); clear hr0_4 hc0_4; (have HB := qM (Below.refl w.heap.size w)); (have H : (if (l0_0.length : Int) < 2 then (arboristref15_counts.j0 k true l0_0 l0_1 l0_2 l0_3 l0_4) else (if (l0_0.length : Int) > 256 then (arboristref15_counts.j0 k true l0_0 l0_1 l0_2 l0_3 l0_4) else (if (l0_1.length : Int) < 1 then (arboristref15_counts.j0 k true l0_0 l0_1 l0_2 l0_3 l0_4) else (if (l0_1.length : Int) > 512 then (arboristref15_counts.j0 k true l0_0 l0_1 l0_2 l0_3 l0_4) else (arboristref15_counts.j0 k ((l0_2.length : Int) != (l0_1.length : Int)) l0_0 l0_1 l0_2 l0_3 l0_4))))) = some r := h); clear h; (have HC2 := qM H); clear H; (go_enter Tryd.func30, Tryd.ntmps30)
 go_upto_region 1 with (first | ((with_reducible refine gate_dst (N := 1) rfl ?_); (try (refine gate_guard (by rfl) ?_; dsimp only)); refine box_event ?hg (N := 1) ?hd (cs := #[.slice A0_0 l0_0.length c0_0, .slice A0_1 l0_1.length c0_1, .slice A0_2 l0_2.length c0_2, .slice A0_3 l0_3.length c0_3, .slice A0_4 l0_4.length c0_4]) (t := 27) ?hr ?_; (case hd => rfl); (case hg => rfl); (case hr => first | (go_simp; done) | (go_simp; rfl)); intro gb248 hg w3 hbox hb; have n0_ := qM (qP (by repeat (first | (with_reducible first | exact HB.out | apply qA | apply qN | apply qD) | exact HB.out)) hb); have n1_ := qM (hbox); have n2_ := qM ((by rw [hg]; exact (qZ (by repeat (first | (with_reducible first | exact HB.out | apply qA | apply qN | apply qD) | exact HB.out))) : w.heap.size ≤ gb248)); have n3_ := qM ((by rw [hg]; exact (qZ (by repeat (first | (with_reducible first | exact HB.out | apply qA | apply qN | apply qD) | exact HB.out))) : w.heap.size ≤ gb248)); clear HB; have HB := n0_; have BK248 := n1_; have GW248 := n2_; have GE248 := n3_; clear n0_ n1_ n2_ n3_; clear hb hbox hg))
 ((try simp only [Act.put, List.setIfInBounds_toArray, List.set_cons_zero, List.set_cons_succ])); (go_cut [36] (fun v36 wc => ∃ (kq : Nat) (x36_1 : Bool), v36 = .bool x36_1 ∧ Aside0 (arboristref15_counts.j0 kq x36_1 l0_0 l0_1 l0_2 l0_3 l0_4 = some r) ∧ Aside0 (kq ≤ k) ∧ Aside0 (wc.heap[gb248]? = some (.cells #[(.slice A0_0 l0_0.length c0_0), (.slice A0_1 l0_1.length c0_1), (.slice A0_2 l0_2.length c0_2), (.slice A0_3 l0_3.length c0_3), (.slice A0_4 l0_4.length c0_4)] 27 (0, 0))) ∧ Aside0 (Below w.heap.size w wc)))
 case first =>
  (have H := HC2.out); clear HC2; (by_cases c4 : (l0_0.length : Int) < 2)
  ·rw [if_pos c4] at H
   (have c4b0 : decide ((l0_0.length : Int) < 2) = true := decide_eq_true c4); (have c4b1 : decide (l0_0.length < 2) = true := decide_eq_true (by omega)); clear c4; ((first | rw [c4b0] | (simp only [i64_w, i32_w]; rw [c4b0]) | skip)); (have H' := qM H); clear H; (obtain ⟨hcz5_0, hcz5_1, hcz5_2, hcz5_3, hcz5_4, hfz5_0, hfz5_1, hfz5_2, hfz5_3, hfz5_4⟩ := bx5 BK248.out); go_wp2; go_meet
   case rel => exact ⟨_, (true), (by first | rfl | (simp; done) | (simp [*]; done)), H', ⟨by first | omega | exact Nat.le_refl _⟩, ⟨by (with_reducible repeat (first | refine qn ?_ _ | refine qd ?_ | refine qa ?_ _)); exact BK248.out⟩, ⟨by repeat (first | (with_reducible first | exact HB.out | apply qA | apply qN | apply qD | refine qS ?_ GE248.out) | exact HB.out)⟩⟩
  ·rw [if_neg c4] at H
   (have c4b0 : decide ((l0_0.length : Int) < 2) = false := decide_eq_false c4); (have c4b1 : decide (l0_0.length < 2) = false := decide_eq_false (by omega)); clear c4; ((first | rw [c4b0] | (simp only [i64_w, i32_w]; rw [c4b0]) | skip)); (by_cases c6 : (l0_0.length : Int) > 256)
   ·rw [if_pos c6] at H
    (have c6b0 : decide (256 < (l0_0.length : Int)) = true := decide_eq_true c6); (have c6b1 : decide (256 < l0_0.length) = true := decide_eq_true (by omega)); clear c6; (have H' := qM H); clear H; (obtain ⟨hcz7_0, hcz7_1, hcz7_2, hcz7_3, hcz7_4, hfz7_0, hfz7_1, hfz7_2, hfz7_3, hfz7_4⟩ := bx5 BK248.out); go_wp2; go_meet
    case rel => exact ⟨_, (true), (by first | rfl | (simp; done) | (simp [*]; done)), H', ⟨by first | omega | exact Nat.le_refl _⟩, ⟨by (with_reducible repeat (first | refine qn ?_ _ | refine qd ?_ | refine qa ?_ _)); exact BK248.out⟩, ⟨by repeat (first | (with_reducible first | exact HB.out | apply qA | apply qN | apply qD | refine qS ?_ GE248.out) | exact HB.out)⟩⟩
   ·rw [if_neg c6] at H
    (have c6b0 : decide (256 < (l0_0.length : Int)) = false := decide_eq_false c6); (have c6b1 : decide (256 < l0_0.length) = false := decide_eq_false (by omega)); clear c6; (by_cases c8 : (l0_1.length : Int) < 1)
    ·rw [if_pos c8] at H
     (have c8b0 : decide ((l0_1.length : Int) < 1) = true := decide_eq_true c8); (have c8b1 : decide (l0_1.length < 1) = true := decide_eq_true (by omega)); clear c8; (have H' := qM H); clear H; (obtain ⟨hcz9_0, hcz9_1, hcz9_2, hcz9_3, hcz9_4, hfz9_0, hfz9_1, hfz9_2, hfz9_3, hfz9_4⟩ := bx5 BK248.out); go_wp2; go_meet
     case rel => exact ⟨_, (true), (by first | rfl | (simp; done) | (simp [*]; done)), H', ⟨by first | omega | exact Nat.le_refl _⟩, ⟨by (with_reducible repeat (first | refine qn ?_ _ | refine qd ?_ | refine qa ?_ _)); exact BK248.out⟩, ⟨by repeat (first | (with_reducible first | exact HB.out | apply qA | apply qN | apply qD | refine qS ?_ GE248.out) | exact HB.out)⟩⟩
    ·rw [if_neg c8] at H
     (have c8b0 : decide ((l0_1.length : Int) < 1) = false := decide_eq_false c8); (have c8b1 : decide (l0_1.length < 1) = false := decide_eq_false (by omega)); clear c8; (by_cases c10 : (l0_1.length : Int) > 512)
     ·rw [if_pos c10] at H
      (have c10b0 : decide (512 < (l0_1.length : Int)) = true := decide_eq_true c10); (have c10b1 : decide (512 < l0_1.length) = true := decide_eq_true (by omega)); clear c10; (have H' := qM H); clear H; (obtain ⟨hcz11_0, hcz11_1, hcz11_2, hcz11_3, hcz11_4, hfz11_0, hfz11_1, hfz11_2, hfz11_3, hfz11_4⟩ := bx5 BK248.out); go_wp2; go_meet
      case rel => exact ⟨_, (true), (by first | rfl | (simp; done) | (simp [*]; done)), H', ⟨by first | omega | exact Nat.le_refl _⟩, ⟨by (with_reducible repeat (first | refine qn ?_ _ | refine qd ?_ | refine qa ?_ _)); exact BK248.out⟩, ⟨by repeat (first | (with_reducible first | exact HB.out | apply qA | apply qN | apply qD | refine qS ?_ GE248.out) | exact HB.out)⟩⟩
     ·rw [if_neg c10] at H
      (have c10b0 : decide (512 < (l0_1.length : Int)) = false := decide_eq_false c10); (have c10b1 : decide (512 < l0_1.length) = false := decide_eq_false (by omega)); clear c10; (have H' := qM H); clear H; (obtain ⟨hcz12_0, hcz12_1, hcz12_2, hcz12_3, hcz12_4, hfz12_0, hfz12_1, hfz12_2, hfz12_3, hfz12_4⟩ := bx5 BK248.out); go_wp2; go_meet
      case rel => exact ⟨_, (((l0_2.length : Int) != (l0_1.length : Int))), (by first | rfl | (simp; done) | (simp [*]; done)), H', ⟨by first | omega | exact Nat.le_refl _⟩, ⟨by (with_reducible repeat (first | refine qn ?_ _ | refine qd ?_ | refine qa ?_ _)); exact BK248.out⟩, ⟨by repeat (first | (with_reducible first | exact HB.out | apply qA | apply qN | apply qD | refine qS ?_ GE248.out) | exact HB.out)⟩⟩
 case rest =>
  clear HC2; (try clear c1); (try clear p2); (try clear c3); (try clear c4); (try clear c4b0); (try clear c4b1); (try clear c6); (try clear c6b0); (try clear c6b1); (try clear c8); (try clear c8b0); (try clear c8b1); (try clear c10); (try clear c10b0); (try clear c10b1); (try clear hcz11_0 hcz11_1 hcz11_2 hcz11_3 hcz11_4); (try clear hcz12_0 hcz12_1 hcz12_2 hcz12_3 hcz12_4); (try clear hcz5_0 hcz5_1 hcz5_2 hcz5_3 hcz5_4); (try clear hcz7_0 hcz7_1 hcz7_2 hcz7_3 hcz7_4); (try clear hcz9_0 hcz9_1 hcz9_2 hcz9_3 hcz9_4); (try clear hfz11_0 hfz11_1 hfz11_2 hfz11_3 hfz11_4); (try clear hfz12_0 hfz12_1 hfz12_2 hfz12_3 hfz12_4); (try clear hfz5_0 hfz5_1 hfz5_2 hfz5_3 hfz5_4); (try clear hfz7_0 hfz7_1 hfz7_2 hfz7_3 hfz7_4); (try clear hfz9_0 hfz9_1 hfz9_2 hfz9_3 hfz9_4); (obtain ⟨kq, x36_1, rfl, HA, HJ1, BK248, HB⟩ := hcut)
  cases kq with
  | zero => exact absurd HA.out (by simp [arboristref15_counts.j0])
  | succ kj1 =>
   (have H := HA.out); clear HA; (simp only [arboristref15_counts.j0] at H); (by_cases c13 : x36_1 = true)
   ·subst c13
    (have H1 : (some true) = some r := by rw [if_pos rfl] at H; exact H); clear H; (have H := H1); clear H1; (obtain rfl := Option.some.inj H); go_wp2; (go_ret); (exact ⟨by first | rfl | (simp [errW_none, errW_some] <;> rfl) | (simp [*, errW_none, errW_some] <;> rfl), by repeat (first | (with_reducible first | exact HB.out | apply qA | apply qN | apply qD | refine qS ?_ GE248.out) | exact HB.out)⟩)
   ·replace c13 := Bool.eq_false_iff.mpr c13
    subst c13; (have H1 : (arboristref15_counts.l0 kj1 0 l0_0 l0_1 l0_2 l0_3 l0_4) = some r := by rw [if_neg (show ¬ (false = true) by decide)] at H; exact H); clear H; (have H := H1); clear H1; (have H' := qM H); clear H; go_wp2; (go_loopg [3] kj1 (fun kq v3 w' => ∃ (x3_2 : Int), v3 = .int .i64 x3_2 ∧ Aside0 (arboristref15_counts.l0 kq x3_2 l0_0 l0_1 l0_2 l0_3 l0_4 = some r) ∧ Aside0 (kq ≤ kj1) ∧ Aside0 (w'.heap[gb248]? = some (.cells #[(.slice A0_0 l0_0.length c0_0), (.slice A0_1 l0_1.length c0_1), (.slice A0_2 l0_2.length c0_2), (.slice A0_3 l0_3.length c0_3), (.slice A0_4 l0_4.length c0_4)] 27 (0, 0))) ∧ Aside0 (Below w.heap.size w w')))
    case atStart => exact ⟨(0), (by first | rfl | (simp; done) | (simp [*]; done)), H', ⟨Nat.le_refl _⟩, ⟨by (with_reducible repeat (first | refine qn ?_ _ | refine qd ?_ | refine qa ?_ _)); exact BK248.out⟩, ⟨by repeat (first | (with_reducible first | exact HB.out | apply qA | apply qN | apply qD | refine qS ?_ GE248.out) | exact HB.out)⟩⟩
    case round =>
     (clear H'); (try clear c1); (try clear p2); (try clear c3); (try clear c4); (try clear c4b0); (try clear c4b1); (try clear c6); (try clear c6b0); (try clear c6b1); (try clear c8); (try clear c8b0); (try clear c8b1); (try clear c10); (try clear c10b0); (try clear c10b1); (try clear c13); (try clear hcz11_0 hcz11_1 hcz11_2 hcz11_3 hcz11_4); (try clear hcz12_0 hcz12_1 hcz12_2 hcz12_3 hcz12_4); (try clear hcz5_0 hcz5_1 hcz5_2 hcz5_3 hcz5_4); (try clear hcz7_0 hcz7_1 hcz7_2 hcz7_3 hcz7_4); (try clear hcz9_0 hcz9_1 hcz9_2 hcz9_3 hcz9_4); (try clear hfz11_0 hfz11_1 hfz11_2 hfz11_3 hfz11_4); (try clear hfz12_0 hfz12_1 hfz12_2 hfz12_3 hfz12_4); (try clear hfz5_0 hfz5_1 hfz5_2 hfz5_3 hfz5_4); (try clear hfz7_0 hfz7_1 hfz7_2 hfz7_3 hfz7_4); (try clear hfz9_0 hfz9_1 hfz9_2 hfz9_3 hfz9_4); (try clear p2); (obtain ⟨x3_2, rfl, HA, HK2, BK248, HB⟩ := hrel)
     cases gk with
     | zero => exact absurd HA.out (by simp [arboristref15_counts.l0])
     | succ k2 =>
      (have H := HA.out); clear HA; (simp only [arboristref15_counts.l0] at H); (by_cases c14 : x3_2 < (l0_2.length : Int))
      ·rw [if_pos c14] at H
       (have c14b0 : decide (x3_2 < (l0_2.length : Int)) = true := decide_eq_true c14); clear c14; (by_cases c15 : 0 ≤ x3_2)
       ·rw [if_pos c15] at H
        (have c15b0 : decide (0 ≤ x3_2) = true := decide_eq_true c15); clear c15; (by_cases c16 : (rd l0_2 x3_2) < 0)
        ·rw [if_pos c16] at H
         (have c16b0 : decide ((rd l0_2 x3_2) < 0) = true := decide_eq_true c16); clear c16; (obtain rfl := Option.some.inj H); (obtain ⟨hcz17_0, hcz17_1, hcz17_2, hcz17_3, hcz17_4, hfz17_0, hfz17_1, hfz17_2, hfz17_3, hfz17_4⟩ := bx5 BK248.out); (have p249 : 0 ≤ (x3_2 : Int) := qo (by first | (with_reducible assumption) | assumption)); (have q249 : x3_2 < (l0_2.length : Int) := qo (by first | (with_reducible assumption) | assumption)); (obtain ⟨ad249, e249, hx249_0⟩ := Kd.at_int HR0_2.out x3_2 p249 q249)
         cases e249
         (replace hx249_0 := (HB.out.cell (qB w _ hx249_0)).trans hx249_0); (replace p249 := eq_true p249); (replace q249 := eq_true q249); go_wp2; (go_ret); (exact ⟨by first | rfl | (simp [errW_none, errW_some] <;> rfl) | (simp [*, errW_none, errW_some] <;> rfl), by repeat (first | (with_reducible first | exact HB.out | apply qA | apply qN | apply qD | refine qS ?_ GE248.out) | exact HB.out)⟩)
        ·rw [if_neg c16] at H
         (have c16b0 : decide ((rd l0_2 x3_2) < 0) = false := decide_eq_false c16); clear c16; (by_cases c18 : (rd l0_2 x3_2) > 5)
         ·rw [if_pos c18] at H
          (have c18b0 : decide (5 < (rd l0_2 x3_2)) = true := decide_eq_true c18); clear c18; (obtain rfl := Option.some.inj H); (obtain ⟨hcz19_0, hcz19_1, hcz19_2, hcz19_3, hcz19_4, hfz19_0, hfz19_1, hfz19_2, hfz19_3, hfz19_4⟩ := bx5 BK248.out); (have p249 : 0 ≤ (x3_2 : Int) := qo (by first | (with_reducible assumption) | assumption)); (have q249 : x3_2 < (l0_2.length : Int) := qo (by first | (with_reducible assumption) | assumption)); (obtain ⟨ad249, e249, hx249_0⟩ := Kd.at_int HR0_2.out x3_2 p249 q249)
          cases e249
          (replace hx249_0 := (HB.out.cell (qB w _ hx249_0)).trans hx249_0); (replace p249 := eq_true p249); (replace q249 := eq_true q249); (have p250 : 0 ≤ (x3_2 : Int) := qo (by first | (with_reducible assumption) | assumption)); (have q250 : x3_2 < (l0_2.length : Int) := qo (by first | (with_reducible assumption) | assumption)); (obtain ⟨ad250, e250, hx250_0⟩ := Kd.at_int HR0_2.out x3_2 p250 q250); (obtain rfl : ad249 = ad250 := (by injection e250)); (replace hx250_0 := (HB.out.cell (qB w _ hx250_0)).trans hx250_0); (replace p250 := eq_true p250); (replace q250 := eq_true q250); go_wp2; (go_ret); (exact ⟨by first | rfl | (simp [errW_none, errW_some] <;> rfl) | (simp [*, errW_none, errW_some] <;> rfl), by repeat (first | (with_reducible first | exact HB.out | apply qA | apply qN | apply qD | refine qS ?_ GE248.out) | exact HB.out)⟩)
         ·rw [if_neg c18] at H
          (have c18b0 : decide (5 < (rd l0_2 x3_2)) = false := decide_eq_false c18); clear c18; (have H' := qM H); clear H; (obtain ⟨hcz20_0, hcz20_1, hcz20_2, hcz20_3, hcz20_4, hfz20_0, hfz20_1, hfz20_2, hfz20_3, hfz20_4⟩ := bx5 BK248.out); (have p249 : 0 ≤ (x3_2 : Int) := qo (by first | (with_reducible assumption) | assumption)); (have q249 : x3_2 < (l0_2.length : Int) := qo (by first | (with_reducible assumption) | assumption)); (obtain ⟨ad249, e249, hx249_0⟩ := Kd.at_int HR0_2.out x3_2 p249 q249)
          cases e249
          (replace hx249_0 := (HB.out.cell (qB w _ hx249_0)).trans hx249_0); (replace p249 := eq_true p249); (replace q249 := eq_true q249); (have p250 : 0 ≤ (x3_2 : Int) := qo (by first | (with_reducible assumption) | assumption)); (have q250 : x3_2 < (l0_2.length : Int) := qo (by first | (with_reducible assumption) | assumption)); (obtain ⟨ad250, e250, hx250_0⟩ := Kd.at_int HR0_2.out x3_2 p250 q250); (obtain rfl : ad249 = ad250 := (by injection e250)); (replace hx250_0 := (HB.out.cell (qB w _ hx250_0)).trans hx250_0); (replace p250 := eq_true p250); (replace q250 := eq_true q250); go_wp2; (go_roundg k2)
          case measure => have := HJ1.out; have := HK2.out; omega
          case rel => exact ⟨(wrap64 (x3_2 + 1)), (by first | rfl | (simp; done) | (simp [*]; done)), H', ⟨by have := HJ1.out; have := HK2.out; omega⟩, ⟨by (with_reducible repeat (first | refine qn ?_ _ | refine qd ?_ | refine qa ?_ _)); exact BK248.out⟩, ⟨by repeat (first | (with_reducible first | exact HB.out | apply qA | apply qN | apply qD | refine qS ?_ GE248.out) | exact HB.out)⟩⟩
       ·rw [if_neg c15] at H
        exact absurd H (by simp)
      ·rw [if_neg c14] at H
       (have c14b0 : decide (x3_2 < (l0_2.length : Int)) = false := decide_eq_false c14); clear c14; (have H' := qM H); clear H; (obtain ⟨hcz21_0, hcz21_1, hcz21_2, hcz21_3, hcz21_4, hfz21_0, hfz21_1, hfz21_2, hfz21_3, hfz21_4⟩ := bx5 BK248.out); go_wp2; (go_loopg [4, 5] k2 (fun kq v4 v5 w' => ∃ (x4_3 : Int) (x5_3 : Int), v4 = .int .i64 x4_3 ∧ v5 = .int .i64 x5_3 ∧ Aside0 (arboristref15_counts.l1 kq x4_3 x5_3 l0_0 l0_1 l0_2 l0_3 l0_4 = some r) ∧ Aside0 (kq ≤ k2) ∧ Aside0 (w'.heap[gb248]? = some (.cells #[(.slice A0_0 l0_0.length c0_0), (.slice A0_1 l0_1.length c0_1), (.slice A0_2 l0_2.length c0_2), (.slice A0_3 l0_3.length c0_3), (.slice A0_4 l0_4.length c0_4)] 27 (0, 0))) ∧ Aside0 (Below w.heap.size w w')))
       case atStart => exact ⟨(0), (0), (by first | rfl | (simp; done) | (simp [*]; done)), (by first | rfl | (simp; done) | (simp [*]; done)), H', ⟨Nat.le_refl _⟩, ⟨by (with_reducible repeat (first | refine qn ?_ _ | refine qd ?_ | refine qa ?_ _)); exact BK248.out⟩, ⟨by repeat (first | (with_reducible first | exact HB.out | apply qA | apply qN | apply qD | refine qS ?_ GE248.out) | exact HB.out)⟩⟩
       case round =>
        (clear H'); (try clear c1); (try clear p2); (try clear q2); (try clear hx2); (try clear c3); (try clear c4); (try clear c4b0); (try clear c4b1); (try clear c6); (try clear c6b0); (try clear c6b1); (try clear p6); (try clear c8); (try clear c8b0); (try clear c8b1); (try clear c10); (try clear c10b0); (try clear c10b1); (try clear c13); (try clear c14); (try clear c14b0); (try clear c15); (try clear c15b0); (try clear c16); (try clear c16b0); (try clear c18); (try clear c18b0); (try clear hcz11_0 hcz11_1 hcz11_2 hcz11_3 hcz11_4); (try clear hcz12_0 hcz12_1 hcz12_2 hcz12_3 hcz12_4); (try clear hcz17_0 hcz17_1 hcz17_2 hcz17_3 hcz17_4); (try clear hcz19_0 hcz19_1 hcz19_2 hcz19_3 hcz19_4); (try clear hcz20_0 hcz20_1 hcz20_2 hcz20_3 hcz20_4); (try clear hcz21_0 hcz21_1 hcz21_2 hcz21_3 hcz21_4); (try clear hcz5_0 hcz5_1 hcz5_2 hcz5_3 hcz5_4); (try clear hcz7_0 hcz7_1 hcz7_2 hcz7_3 hcz7_4); (try clear hcz9_0 hcz9_1 hcz9_2 hcz9_3 hcz9_4); (try clear hfz11_0 hfz11_1 hfz11_2 hfz11_3 hfz11_4); (try clear hfz12_0 hfz12_1 hfz12_2 hfz12_3 hfz12_4); (try clear hfz17_0 hfz17_1 hfz17_2 hfz17_3 hfz17_4); (try clear hfz19_0 hfz19_1 hfz19_2 hfz19_3 hfz19_4); (try clear hfz20_0 hfz20_1 hfz20_2 hfz20_3 hfz20_4); (try clear hfz21_0 hfz21_1 hfz21_2 hfz21_3 hfz21_4); (try clear hfz5_0 hfz5_1 hfz5_2 hfz5_3 hfz5_4); (try clear hfz7_0 hfz7_1 hfz7_2 hfz7_3 hfz7_4); (try clear hfz9_0 hfz9_1 hfz9_2 hfz9_3 hfz9_4); (try clear hx249_0); (try clear hx250_0); (try clear p2); (try clear p249); (try clear p250); (try clear q249); (try clear q250); (obtain ⟨x4_3, x5_3, rfl, rfl, HA, HK3, BK248, HB⟩ := hrel)
        cases gk with
        | zero => exact absurd HA.out (by simp [arboristref15_counts.l1])
        | succ k3 =>
         (have H := HA.out); clear HA; (simp only [arboristref15_counts.l1] at H); (by_cases c22 : x5_3 < (l0_3.length : Int))
         ·rw [if_pos c22] at H
          (have c22b0 : decide (x5_3 < (l0_3.length : Int)) = true := decide_eq_true c22); clear c22; (by_cases c23 : 0 ≤ x5_3)
          ·rw [if_pos c23] at H
           (have c23b0 : decide (0 ≤ x5_3) = true := decide_eq_true c23); clear c23; (have H' := qM H); clear H; (obtain ⟨hcz24_0, hcz24_1, hcz24_2, hcz24_3, hcz24_4, hfz24_0, hfz24_1, hfz24_2, hfz24_3, hfz24_4⟩ := bx5 BK248.out); (have p251 : 0 ≤ (x5_3 : Int) := qo (by first | (with_reducible assumption) | assumption)); (have q251 : x5_3 < (l0_3.length : Int) := qo (by first | (with_reducible assumption) | assumption)); (obtain ⟨ad251, A251_1, c251_1, A251_2, c251_2, e251, hx251_0, hx251_1, hx251_2, hx251_3, hx251_4, hl251_1, hi251_1, hl251_2, hi251_2⟩ := at_T43 HR0_3.out x5_3 p251 q251)
           cases e251
           (replace hx251_0 := (HB.out.cell (qB w _ hx251_0)).trans hx251_0); (replace hx251_1 := (HB.out.cell (qB w _ hx251_1)).trans hx251_1); (replace hx251_2 := (HB.out.cell (qB w _ hx251_2)).trans hx251_2); (replace hx251_3 := (HB.out.cell (qB w _ hx251_3)).trans hx251_3); (replace hx251_4 := (HB.out.cell (qB w _ hx251_4)).trans hx251_4); (have HR251_1 := qM hi251_1); (have HC251_1 := qM hl251_1); clear hi251_1 hl251_1; (have HR251_2 := qM hi251_2); (have HC251_2 := qM hl251_2); clear hi251_2 hl251_2; (replace p251 := eq_true p251); (replace q251 := eq_true q251); go_wp2; (go_roundg k3)
           case measure => have := HJ1.out; have := HK2.out; have := HK3.out; omega
           case rel => exact ⟨(wrap64 (x4_3 + (((rd_T43 l0_3 x5_3).f1).length : Int))), (wrap64 (x5_3 + 1)), (by first | rfl | (simp; done) | (simp [*]; done)), (by first | rfl | (simp; done) | (simp [*]; done)), H', ⟨by have := HJ1.out; have := HK2.out; have := HK3.out; omega⟩, ⟨by (with_reducible repeat (first | refine qn ?_ _ | refine qd ?_ | refine qa ?_ _)); exact BK248.out⟩, ⟨by repeat (first | (with_reducible first | exact HB.out | apply qA | apply qN | apply qD | refine qS ?_ GE248.out) | exact HB.out)⟩⟩
          ·rw [if_neg c23] at H
           exact absurd H (by simp)
         ·rw [if_neg c22] at H
          (have c22b0 : decide (x5_3 < (l0_3.length : Int)) = false := decide_eq_false c22); clear c22; (by_cases c25 : (l0_3.length : Int) < 1)
          ·rw [if_pos c25] at H
           (have c25b0 : decide ((l0_3.length : Int) < 1) = true := decide_eq_true c25); (have c25b1 : decide (l0_3.length < 1) = true := decide_eq_true (by omega)); clear c25; (obtain rfl := Option.some.inj H); (obtain ⟨hcz26_0, hcz26_1, hcz26_2, hcz26_3, hcz26_4, hfz26_0, hfz26_1, hfz26_2, hfz26_3, hfz26_4⟩ := bx5 BK248.out); go_wp2; (go_ret); (exact ⟨by first | rfl | (simp [errW_none, errW_some] <;> rfl) | (simp [*, errW_none, errW_some] <;> rfl), by repeat (first | (with_reducible first | exact HB.out | apply qA | apply qN | apply qD | refine qS ?_ GE248.out) | exact HB.out)⟩)
          ·rw [if_neg c25] at H
           (have c25b0 : decide ((l0_3.length : Int) < 1) = false := decide_eq_false c25); (have c25b1 : decide (l0_3.length < 1) = false := decide_eq_false (by omega)); clear c25; (by_cases c27 : (l0_3.length : Int) > 1024)
           ·rw [if_pos c27] at H
            (have c27b0 : decide (1024 < (l0_3.length : Int)) = true := decide_eq_true c27); (have c27b1 : decide (1024 < l0_3.length) = true := decide_eq_true (by omega)); clear c27; (obtain rfl := Option.some.inj H); (obtain ⟨hcz28_0, hcz28_1, hcz28_2, hcz28_3, hcz28_4, hfz28_0, hfz28_1, hfz28_2, hfz28_3, hfz28_4⟩ := bx5 BK248.out); go_wp2; (go_ret); (exact ⟨by first | rfl | (simp [errW_none, errW_some] <;> rfl) | (simp [*, errW_none, errW_some] <;> rfl), by repeat (first | (with_reducible first | exact HB.out | apply qA | apply qN | apply qD | refine qS ?_ GE248.out) | exact HB.out)⟩)
           ·rw [if_neg c27] at H
            (have c27b0 : decide (1024 < (l0_3.length : Int)) = false := decide_eq_false c27); (have c27b1 : decide (1024 < l0_3.length) = false := decide_eq_false (by omega)); clear c27; (by_cases c29 : (l0_4.length : Int) > 32)
            ·rw [if_pos c29] at H
             (have c29b0 : decide (32 < (l0_4.length : Int)) = true := decide_eq_true c29); (have c29b1 : decide (32 < l0_4.length) = true := decide_eq_true (by omega)); clear c29; (obtain rfl := Option.some.inj H); (obtain ⟨hcz30_0, hcz30_1, hcz30_2, hcz30_3, hcz30_4, hfz30_0, hfz30_1, hfz30_2, hfz30_3, hfz30_4⟩ := bx5 BK248.out); go_wp2; (go_ret); (exact ⟨by first | rfl | (simp [errW_none, errW_some] <;> rfl) | (simp [*, errW_none, errW_some] <;> rfl), by repeat (first | (with_reducible first | exact HB.out | apply qA | apply qN | apply qD | refine qS ?_ GE248.out) | exact HB.out)⟩)
            ·rw [if_neg c29] at H
             (have c29b0 : decide (32 < (l0_4.length : Int)) = false := decide_eq_false c29); (have c29b1 : decide (32 < l0_4.length) = false := decide_eq_false (by omega)); clear c29; (obtain rfl := Option.some.inj H); (obtain ⟨hcz31_0, hcz31_1, hcz31_2, hcz31_3, hcz31_4, hfz31_0, hfz31_1, hfz31_2, hfz31_3, hfz31_4⟩ := bx5 BK248.out); go_wp2; (go_ret); (exact ⟨by first | rfl | (simp [errW_none, errW_some] <;> rfl) | (simp [*, errW_none, errW_some] <;> rfl), by repeat (first | (with_reducible first | exact HB.out | apply qA | apply qN | apply qD | refine qS ?_ GE248.out) | exact HB.out)⟩)
mutual
def arboristref15_twice.l0 : Nat → List ByteArray → Int → Option (Bool)
 | 0, _, _ => none
 | k + 1, x0, x3 => if x3 < (x0.length : Int) then (arboristref15_twice.l1 k x0 x3 0) else (some false)
def arboristref15_twice.l1 : Nat → List ByteArray → Int → Int → Option (Bool)
 | 0, _, _, _ => none
 | k + 1, x0, x3, x4 => if x4 < x3 then (if 0 ≤ x4 then (if x4 < (x0.length : Int) then (if 0 ≤ x3 then (if x3 < (x0.length : Int) then (if (rdOf ByteArray.empty x0 x4).toList = (rdOf ByteArray.empty x0 x3).toList then (some true) else (arboristref15_twice.l1 k x0 x3 (wrap64 (x4 + 1)))) else (none)) else (none)) else (none)) else (none)) else (arboristref15_twice.l0 k x0 (wrap64 (x3 + 1)))
end
def arboristref15_twice.f (k : Nat) (l0 : List ByteArray) : Option (Bool) := arboristref15_twice.l0 k l0 0
theorem arboristref15_twice.mono_l : ∀ k, (∀ y0 y1, LeO (arboristref15_twice.l0 k y0 y1) (arboristref15_twice.l0 (k + 1) y0 y1)) ∧ (∀ y0 y1 y2, LeO (arboristref15_twice.l1 k y0 y1 y2) (arboristref15_twice.l1 (k + 1) y0 y1 y2))
 | 0 => ⟨fun _ _ r h => by simp [arboristref15_twice.l0] at h, fun _ _ _ r h => by simp [arboristref15_twice.l1] at h⟩
 | k + 1 => by
  (obtain ⟨ih0, ih1⟩ := arboristref15_twice.mono_l k); (refine ⟨?_, ?_⟩)
  ·intro y0 y1
   unfold arboristref15_twice.l0
   repeat' first
   | (with_reducible exact ih0 _ _)
   | (with_reducible exact ih1 _ _ _)
   | (with_reducible exact LeO.refl _)
   | (with_reducible exact LeO.none _)
   | (with_reducible refine LeO.ite ?_ ?_)
   | (with_reducible refine LeO.bind ?_ (fun _ => ?_))
   | exact ih0 _ _
   | exact ih1 _ _ _
   | exact LeO.none _
   | refine LeO.ite ?_ ?_
   | refine LeO.bind ?_ (fun _ => ?_)
  ·intro y0 y1 y2
   unfold arboristref15_twice.l1
   repeat' first
   | (with_reducible exact ih0 _ _)
   | (with_reducible exact ih1 _ _ _)
   | (with_reducible exact LeO.refl _)
   | (with_reducible exact LeO.none _)
   | (with_reducible refine LeO.ite ?_ ?_)
   | (with_reducible refine LeO.bind ?_ (fun _ => ?_))
   | exact ih0 _ _
   | exact ih1 _ _ _
   | exact LeO.none _
   | refine LeO.ite ?_ ?_
   | refine LeO.bind ?_ (fun _ => ?_)
theorem arboristref15_twice.mono : ∀ a0 k, LeO (arboristref15_twice.f k a0) (arboristref15_twice.f (k + 1) a0) := by
 (intro a0 k); (obtain ⟨ih0, ih1⟩ := arboristref15_twice.mono_l k); (unfold arboristref15_twice.f)
 repeat' first
   | (with_reducible exact ih0 _ _)
   | (with_reducible exact ih1 _ _ _)
   | (with_reducible exact LeO.refl _)
   | (with_reducible exact LeO.none _)
   | (with_reducible refine LeO.ite ?_ ?_)
   | (with_reducible refine LeO.bind ?_ (fun _ => ?_))
   | exact ih0 _ _
   | exact ih1 _ _ _
   | exact LeO.none _
   | refine LeO.ite ?_ ?_
   | refine LeO.bind ?_ (fun _ => ?_)
set_option maxHeartbeats 8000000 in
set_option maxRecDepth 100000 in
theorem arboristref15_twice.calls (k : Nat) (A0 : Option Addr) (c0 : Nat) (l0 : List ByteArray) (r : Bool) (w : World) (hr0 : Kd.C Kd.string w A0 l0.length l0) (hc0 : l0.length ≤ c0) (h : arboristref15_twice.f k l0 = some r) :
  Calls Tryd.prog 31 #[.slice A0 l0.length c0] w fun e w' => e = .returned (.bool r) ∧ Drawn0 w w' := by
 (have HR0 := qM hr0); (have HC0 := qM hc0); clear hr0 hc0; (have H : (arboristref15_twice.l0 k l0 0) = some r := h); clear h; (have H' := qM H); clear H; (go_enter Tryd.func31, Tryd.ntmps31); go_wp2; (repeat (go_quiet (fail); try go_wp2)); (go_loopg [3] k (fun kq v3 w' => ∃ (x3_1 : Int), v3 = .int .i64 x3_1 ∧ Aside0 (arboristref15_twice.l0 kq l0 x3_1 = some r) ∧ Aside0 (kq ≤ k) ∧ Drawn0 w w'))
 case atStart => exact ⟨(0), (by first | rfl | (simp; done) | (simp [*]; done)), H', ⟨Nat.le_refl _⟩, by repeat (first | exact Drawn0.refl _ | apply Drawn0.step)⟩
 case round =>
  (clear H'); (obtain ⟨x3_1, rfl, HA, HK1, ⟨m1, rfl⟩⟩ := hrel)
  cases gk with
  | zero => exact absurd HA.out (by simp [arboristref15_twice.l0])
  | succ k1 =>
   (have H := HA.out); clear HA; (simp only [arboristref15_twice.l0] at H); (by_cases c2 : x3_1 < (l0.length : Int))
   ·rw [if_pos c2] at H
    (have c2b0 : decide (x3_1 < (l0.length : Int)) = true := decide_eq_true c2); clear c2; (have H' := qM H); clear H; go_wp2; (repeat (go_quiet (fail); try go_wp2)); (go_loopg [4] k1 (fun kq v4 w' => ∃ (x4_2 : Int), v4 = .int .i64 x4_2 ∧ Aside0 (arboristref15_twice.l1 kq l0 x3_1 x4_2 = some r) ∧ Aside0 (kq ≤ k1) ∧ Drawn0 w w'))
    case atStart => exact ⟨(0), (by first | rfl | (simp; done) | (simp [*]; done)), H', ⟨Nat.le_refl _⟩, by repeat (first | exact Drawn0.refl _ | apply Drawn0.step)⟩
    case round =>
     (clear H'); (try clear c2); (try clear c2b0); (try clear p2); (obtain ⟨x4_2, rfl, HA, HK2, ⟨m2, rfl⟩⟩ := hrel)
     cases gk with
     | zero => exact absurd HA.out (by simp [arboristref15_twice.l1])
     | succ k2 =>
      (have H := HA.out); clear HA; (simp only [arboristref15_twice.l1] at H); (by_cases c3 : x4_2 < x3_1)
      ·rw [if_pos c3] at H
       (have c3b0 : decide (x4_2 < x3_1) = true := decide_eq_true c3); clear c3; (by_cases c4 : 0 ≤ x4_2)
       ·rw [if_pos c4] at H
        (have c4b0 : decide (0 ≤ x4_2) = true := decide_eq_true c4); clear c4; (by_cases c5 : x4_2 < (l0.length : Int))
        ·rw [if_pos c5] at H
         (have c5b0 : decide (x4_2 < (l0.length : Int)) = true := decide_eq_true c5); clear c5; (by_cases c6 : 0 ≤ x3_1)
         ·rw [if_pos c6] at H
          (have c6b0 : decide (0 ≤ x3_1) = true := decide_eq_true c6); clear c6; (by_cases c7 : x3_1 < (l0.length : Int))
          ·rw [if_pos c7] at H
           (have c7b0 : decide (x3_1 < (l0.length : Int)) = true := decide_eq_true c7); clear c7; (by_cases c8 : (rdOf ByteArray.empty l0 x4_2).toList = (rdOf ByteArray.empty l0 x3_1).toList)
           ·rw [if_pos c8] at H
            (have c8b0 : ((rdOf ByteArray.empty l0 x4_2).toList == (rdOf ByteArray.empty l0 x3_1).toList) = true := beq_iff_eq.mpr c8); (have c8b1 : ((rdOf ByteArray.empty l0 x4_2).toList != (rdOf ByteArray.empty l0 x3_1).toList) = false := bne_eq_false_iff_eq.mpr c8); clear c8; (obtain rfl := Option.some.inj H); (have p252 : 0 ≤ (x4_2 : Int) := qo (by first | (with_reducible assumption) | assumption)); (have q252 : x4_2 < (l0.length : Int) := qo (by first | (with_reducible assumption) | assumption)); (obtain ⟨ad252, e252, hx252_0⟩ := Kd.at_string HR0.out x4_2 p252 q252)
            cases e252
            (replace p252 := eq_true p252); (replace q252 := eq_true q252); (have p253 : 0 ≤ (x3_1 : Int) := qo (by first | (with_reducible assumption) | assumption)); (have q253 : x3_1 < (l0.length : Int) := qo (by first | (with_reducible assumption) | assumption)); (obtain ⟨ad253, e253, hx253_0⟩ := Kd.at_string HR0.out x3_1 p253 q253); (obtain rfl : ad252 = ad253 := (by injection e253)); (replace p253 := eq_true p253); (replace q253 := eq_true q253); go_wp2; (repeat (go_quiet (fail); try go_wp2)); (go_ret); (exact ⟨by first | rfl | (simp; done) | (simp [*]; done), by repeat (first | exact Drawn0.refl _ | apply Drawn0.step)⟩)
           ·rw [if_neg c8] at H
            (have c8b0 : ((rdOf ByteArray.empty l0 x4_2).toList == (rdOf ByteArray.empty l0 x3_1).toList) = false := beq_eq_false_iff_ne.mpr c8); (have c8b1 : ((rdOf ByteArray.empty l0 x4_2).toList != (rdOf ByteArray.empty l0 x3_1).toList) = true := bne_iff_ne.mpr c8); (have H' := qM H); clear H; (have p252 : 0 ≤ (x4_2 : Int) := qo (by first | (with_reducible assumption) | assumption)); (have q252 : x4_2 < (l0.length : Int) := qo (by first | (with_reducible assumption) | assumption)); (obtain ⟨ad252, e252, hx252_0⟩ := Kd.at_string HR0.out x4_2 p252 q252)
            cases e252
            (replace p252 := eq_true p252); (replace q252 := eq_true q252); (have p253 : 0 ≤ (x3_1 : Int) := qo (by first | (with_reducible assumption) | assumption)); (have q253 : x3_1 < (l0.length : Int) := qo (by first | (with_reducible assumption) | assumption)); (obtain ⟨ad253, e253, hx253_0⟩ := Kd.at_string HR0.out x3_1 p253 q253); (obtain rfl : ad252 = ad253 := (by injection e253)); (replace p253 := eq_true p253); (replace q253 := eq_true q253); go_wp2; (repeat (go_quiet (fail); try go_wp2)); (go_roundg k2)
            case measure => have := HK1.out; have := HK2.out; omega
            case rel => exact ⟨(wrap64 (x4_2 + 1)), (by first | rfl | (simp; done) | (simp [*]; done)), H', ⟨by have := HK1.out; have := HK2.out; omega⟩, by repeat (first | exact Drawn0.refl _ | apply Drawn0.step)⟩
          ·rw [if_neg c7] at H
           exact absurd H (by simp)
         ·rw [if_neg c6] at H
          exact absurd H (by simp)
        ·rw [if_neg c5] at H
         exact absurd H (by simp)
       ·rw [if_neg c4] at H
        exact absurd H (by simp)
      ·rw [if_neg c3] at H
       (have c3b0 : decide (x4_2 < x3_1) = false := decide_eq_false c3); clear c3; (have H' := qM H); clear H; go_wp2; (repeat (go_quiet (fail); try go_wp2)); (go_roundg k2)
       case measure => have := HK1.out; have := HK2.out; omega
       case rel => exact ⟨(wrap64 (x3_1 + 1)), (by first | rfl | (simp; done) | (simp [*]; done)), H', ⟨by have := HK1.out; have := HK2.out; omega⟩, by repeat (first | exact Drawn0.refl _ | apply Drawn0.step)⟩
   ·rw [if_neg c2] at H
    (have c2b0 : decide (x3_1 < (l0.length : Int)) = false := decide_eq_false c2); clear c2; (obtain rfl := Option.some.inj H); go_wp2; (repeat (go_quiet (fail); try go_wp2)); (go_ret); (exact ⟨by first | rfl | (simp; done) | (simp [*]; done), by repeat (first | exact Drawn0.refl _ | apply Drawn0.step)⟩)
def arboristref15_Is.f (l0_0 : List ByteArray) (l0_1 : List ByteArray) (l0_2 : List Int) (l0_3 : List (S43)) (l0_4 : List (S46)) (a1 : Int) : Option (Bool) := if a1 ≥ 0 then (if a1 < (l0_0.length : Int) then (some true) else (if a1 < 0 then (some (decide (a1 ≥ (wrap64 (-(l0_1.length : Int)))))) else (some false))) else (if a1 < 0 then (some (decide (a1 ≥ (wrap64 (-(l0_1.length : Int)))))) else (some false))
set_option maxHeartbeats 8000000 in
set_option maxRecDepth 100000 in
theorem arboristref15_Is.calls (A0_0 : Option Addr) (c0_0 : Nat) (l0_0 : List ByteArray) (A0_1 : Option Addr) (c0_1 : Nat) (l0_1 : List ByteArray) (A0_2 : Option Addr) (c0_2 : Nat) (l0_2 : List Int) (A0_3 : Option Addr) (c0_3 : Nat) (l0_3 : List (S43)) (A0_4 : Option Addr) (c0_4 : Nat) (l0_4 : List (S46)) (a1 : Int) (r : Bool) (w : World) (hr0_0 : Kd.C Kd.string w A0_0 l0_0.length l0_0) (hc0_0 : l0_0.length ≤ c0_0) (hr0_1 : Kd.C Kd.string w A0_1 l0_1.length l0_1) (hc0_1 : l0_1.length ≤ c0_1) (hr0_2 : Kd.C (Kd.int .i64) w A0_2 l0_2.length l0_2) (hc0_2 : l0_2.length ≤ c0_2) (hr0_3 : Kd.C k43 w A0_3 l0_3.length l0_3) (hc0_3 : l0_3.length ≤ c0_3) (hr0_4 : Kd.C k46 w A0_4 l0_4.length l0_4) (hc0_4 : l0_4.length ≤ c0_4) (h : arboristref15_Is.f l0_0 l0_1 l0_2 l0_3 l0_4 a1 = some r) :
  Calls Tryd.prog 36 #[.agg #[.slice A0_0 l0_0.length c0_0, .slice A0_1 l0_1.length c0_1, .slice A0_2 l0_2.length c0_2, .slice A0_3 l0_3.length c0_3, .slice A0_4 l0_4.length c0_4], .int .i64 a1] w fun e w' => e = .returned (.bool r) ∧ Below w.heap.size w w' := by
 (have hu27 := Tryd.underlying27); (have HR0_0 := qM hr0_0); (have HC0_0 := qM hc0_0); clear hr0_0 hc0_0; (have HR0_1 := qM hr0_1); (have HC0_1 := qM hc0_1); clear hr0_1 hc0_1; (have HR0_2 := qM hr0_2); (have HC0_2 := qM hc0_2); clear hr0_2 hc0_2; (have HR0_3 := qM hr0_3); (have HC0_3 := qM hc0_3); clear hr0_3 hc0_3; (have HR0_4 := qM hr0_4); (have HC0_4 := qM hc0_4); clear hr0_4 hc0_4; (have HB := qM (Below.refl w.heap.size w)); (have H : (if a1 ≥ 0 then (if a1 < (l0_0.length : Int) then (some true) else (if a1 < 0 then (some (decide (a1 ≥ (wrap64 (-(l0_1.length : Int)))))) else (some false))) else (if a1 < 0 then (some (decide (a1 ≥ (wrap64 (-(l0_1.length : Int)))))) else (some false))) = some r := h); clear h; (by_cases c3 : a1 ≥ 0)
 ·rw [if_pos c3] at H
  (have c3b0 : decide (0 ≤ a1) = true := decide_eq_true c3); clear c3; (by_cases c4 : a1 < (l0_0.length : Int))
  ·rw [if_pos c4] at H
   (have c4b0 : decide (a1 < (l0_0.length : Int)) = true := decide_eq_true c4); clear c4; (obtain rfl := Option.some.inj H); (go_enter Tryd.func36, Tryd.ntmps36)
   go_wp2_with (first | ((with_reducible refine gate_dst (N := 2) rfl ?_); (try (refine gate_guard (by rfl) ?_; dsimp only)); refine box_event ?hg (N := 2) ?hd (cs := #[.slice A0_0 l0_0.length c0_0, .slice A0_1 l0_1.length c0_1, .slice A0_2 l0_2.length c0_2, .slice A0_3 l0_3.length c0_3, .slice A0_4 l0_4.length c0_4]) (t := 27) ?hr ?_; (case hd => rfl); (case hg => rfl); (case hr => first | (go_simp; done) | (go_simp; rfl)); intro gb254 hg w5 hbox hb; have n0_ := qM (qP (by repeat (first | (with_reducible first | exact HB.out | apply qA | apply qN | apply qD) | exact HB.out)) hb); have n1_ := qM (hbox); have n2_ := qM ((by rw [hg]; exact (qZ (by repeat (first | (with_reducible first | exact HB.out | apply qA | apply qN | apply qD) | exact HB.out))) : w.heap.size ≤ gb254)); have n3_ := qM ((by rw [hg]; exact (qZ (by repeat (first | (with_reducible first | exact HB.out | apply qA | apply qN | apply qD) | exact HB.out))) : w.heap.size ≤ gb254)); clear HB; have HB := n0_; have BK254 := n1_; have GW254 := n2_; have GE254 := n3_; clear n0_ n1_ n2_ n3_; clear hb hbox hg; obtain ⟨hcz6_0, hcz6_1, hcz6_2, hcz6_3, hcz6_4, hfz6_0, hfz6_1, hfz6_2, hfz6_3, hfz6_4⟩ := bx5 BK254.out))
   (go_ret); (exact ⟨by first | rfl | (simp [errW_none, errW_some] <;> rfl) | (simp [*, errW_none, errW_some] <;> rfl), by repeat (first | (with_reducible first | exact HB.out | apply qA | apply qN | apply qD | refine qS ?_ GE254.out) | exact HB.out)⟩)
  ·rw [if_neg c4] at H
   (have c4b0 : decide (a1 < (l0_0.length : Int)) = false := decide_eq_false c4); clear c4; (by_cases c7 : a1 < 0)
   ·rw [if_pos c7] at H
    (have c7b0 : decide (a1 < 0) = true := decide_eq_true c7); clear c7; (obtain rfl := Option.some.inj H); (go_enter Tryd.func36, Tryd.ntmps36)
    go_wp2_with (first | ((with_reducible refine gate_dst (N := 2) rfl ?_); (try (refine gate_guard (by rfl) ?_; dsimp only)); refine box_event ?hg (N := 2) ?hd (cs := #[.slice A0_0 l0_0.length c0_0, .slice A0_1 l0_1.length c0_1, .slice A0_2 l0_2.length c0_2, .slice A0_3 l0_3.length c0_3, .slice A0_4 l0_4.length c0_4]) (t := 27) ?hr ?_; (case hd => rfl); (case hg => rfl); (case hr => first | (go_simp; done) | (go_simp; rfl)); intro gb254 hg w8 hbox hb; have n0_ := qM (qP (by repeat (first | (with_reducible first | exact HB.out | apply qA | apply qN | apply qD) | exact HB.out)) hb); have n1_ := qM (hbox); have n2_ := qM ((by rw [hg]; exact (qZ (by repeat (first | (with_reducible first | exact HB.out | apply qA | apply qN | apply qD) | exact HB.out))) : w.heap.size ≤ gb254)); have n3_ := qM ((by rw [hg]; exact (qZ (by repeat (first | (with_reducible first | exact HB.out | apply qA | apply qN | apply qD) | exact HB.out))) : w.heap.size ≤ gb254)); clear HB; have HB := n0_; have BK254 := n1_; have GW254 := n2_; have GE254 := n3_; clear n0_ n1_ n2_ n3_; clear hb hbox hg; obtain ⟨hcz9_0, hcz9_1, hcz9_2, hcz9_3, hcz9_4, hfz9_0, hfz9_1, hfz9_2, hfz9_3, hfz9_4⟩ := bx5 BK254.out))
    (go_ret); (exact ⟨by first | rfl | (simp [errW_none, errW_some] <;> rfl) | (simp [*, errW_none, errW_some] <;> rfl), by repeat (first | (with_reducible first | exact HB.out | apply qA | apply qN | apply qD | refine qS ?_ GE254.out) | exact HB.out)⟩)
   ·rw [if_neg c7] at H
    (have c7b0 : decide (a1 < 0) = false := decide_eq_false c7); clear c7; (obtain rfl := Option.some.inj H); (go_enter Tryd.func36, Tryd.ntmps36)
    go_wp2_with (first | ((with_reducible refine gate_dst (N := 2) rfl ?_); (try (refine gate_guard (by rfl) ?_; dsimp only)); refine box_event ?hg (N := 2) ?hd (cs := #[.slice A0_0 l0_0.length c0_0, .slice A0_1 l0_1.length c0_1, .slice A0_2 l0_2.length c0_2, .slice A0_3 l0_3.length c0_3, .slice A0_4 l0_4.length c0_4]) (t := 27) ?hr ?_; (case hd => rfl); (case hg => rfl); (case hr => first | (go_simp; done) | (go_simp; rfl)); intro gb254 hg w10 hbox hb; have n0_ := qM (qP (by repeat (first | (with_reducible first | exact HB.out | apply qA | apply qN | apply qD) | exact HB.out)) hb); have n1_ := qM (hbox); have n2_ := qM ((by rw [hg]; exact (qZ (by repeat (first | (with_reducible first | exact HB.out | apply qA | apply qN | apply qD) | exact HB.out))) : w.heap.size ≤ gb254)); have n3_ := qM ((by rw [hg]; exact (qZ (by repeat (first | (with_reducible first | exact HB.out | apply qA | apply qN | apply qD) | exact HB.out))) : w.heap.size ≤ gb254)); clear HB; have HB := n0_; have BK254 := n1_; have GW254 := n2_; have GE254 := n3_; clear n0_ n1_ n2_ n3_; clear hb hbox hg; obtain ⟨hcz11_0, hcz11_1, hcz11_2, hcz11_3, hcz11_4, hfz11_0, hfz11_1, hfz11_2, hfz11_3, hfz11_4⟩ := bx5 BK254.out))
    (go_ret); (exact ⟨by first | rfl | (simp [errW_none, errW_some] <;> rfl) | (simp [*, errW_none, errW_some] <;> rfl), by repeat (first | (with_reducible first | exact HB.out | apply qA | apply qN | apply qD | refine qS ?_ GE254.out) | exact HB.out)⟩)
 ·rw [if_neg c3] at H
  (have c3b0 : decide (0 ≤ a1) = false := decide_eq_false c3); clear c3; (by_cases c12 : a1 < 0)
  ·rw [if_pos c12] at H
   (have c12b0 : decide (a1 < 0) = true := decide_eq_true c12); clear c12; (obtain rfl := Option.some.inj H); (go_enter Tryd.func36, Tryd.ntmps36)
   go_wp2_with (first | ((with_reducible refine gate_dst (N := 2) rfl ?_); (try (refine gate_guard (by rfl) ?_; dsimp only)); refine box_event ?hg (N := 2) ?hd (cs := #[.slice A0_0 l0_0.length c0_0, .slice A0_1 l0_1.length c0_1, .slice A0_2 l0_2.length c0_2, .slice A0_3 l0_3.length c0_3, .slice A0_4 l0_4.length c0_4]) (t := 27) ?hr ?_; (case hd => rfl); (case hg => rfl); (case hr => first | (go_simp; done) | (go_simp; rfl)); intro gb254 hg w13 hbox hb; have n0_ := qM (qP (by repeat (first | (with_reducible first | exact HB.out | apply qA | apply qN | apply qD) | exact HB.out)) hb); have n1_ := qM (hbox); have n2_ := qM ((by rw [hg]; exact (qZ (by repeat (first | (with_reducible first | exact HB.out | apply qA | apply qN | apply qD) | exact HB.out))) : w.heap.size ≤ gb254)); have n3_ := qM ((by rw [hg]; exact (qZ (by repeat (first | (with_reducible first | exact HB.out | apply qA | apply qN | apply qD) | exact HB.out))) : w.heap.size ≤ gb254)); clear HB; have HB := n0_; have BK254 := n1_; have GW254 := n2_; have GE254 := n3_; clear n0_ n1_ n2_ n3_; clear hb hbox hg; obtain ⟨hcz14_0, hcz14_1, hcz14_2, hcz14_3, hcz14_4, hfz14_0, hfz14_1, hfz14_2, hfz14_3, hfz14_4⟩ := bx5 BK254.out))
   (go_ret); (exact ⟨by first | rfl | (simp [errW_none, errW_some] <;> rfl) | (simp [*, errW_none, errW_some] <;> rfl), by repeat (first | (with_reducible first | exact HB.out | apply qA | apply qN | apply qD | refine qS ?_ GE254.out) | exact HB.out)⟩)
  ·rw [if_neg c12] at H
   (have c12b0 : decide (a1 < 0) = false := decide_eq_false c12); clear c12; (obtain rfl := Option.some.inj H); (go_enter Tryd.func36, Tryd.ntmps36)
   go_wp2_with (first | ((with_reducible refine gate_dst (N := 2) rfl ?_); (try (refine gate_guard (by rfl) ?_; dsimp only)); refine box_event ?hg (N := 2) ?hd (cs := #[.slice A0_0 l0_0.length c0_0, .slice A0_1 l0_1.length c0_1, .slice A0_2 l0_2.length c0_2, .slice A0_3 l0_3.length c0_3, .slice A0_4 l0_4.length c0_4]) (t := 27) ?hr ?_; (case hd => rfl); (case hg => rfl); (case hr => first | (go_simp; done) | (go_simp; rfl)); intro gb254 hg w15 hbox hb; have n0_ := qM (qP (by repeat (first | (with_reducible first | exact HB.out | apply qA | apply qN | apply qD) | exact HB.out)) hb); have n1_ := qM (hbox); have n2_ := qM ((by rw [hg]; exact (qZ (by repeat (first | (with_reducible first | exact HB.out | apply qA | apply qN | apply qD) | exact HB.out))) : w.heap.size ≤ gb254)); have n3_ := qM ((by rw [hg]; exact (qZ (by repeat (first | (with_reducible first | exact HB.out | apply qA | apply qN | apply qD) | exact HB.out))) : w.heap.size ≤ gb254)); clear HB; have HB := n0_; have BK254 := n1_; have GW254 := n2_; have GE254 := n3_; clear n0_ n1_ n2_ n3_; clear hb hbox hg))
   (go_ret); (exact ⟨by first | rfl | (simp [errW_none, errW_some] <;> rfl) | (simp [*, errW_none, errW_some] <;> rfl), by repeat (first | (with_reducible first | exact HB.out | apply qA | apply qN | apply qD | refine qS ?_ GE254.out) | exact HB.out)⟩)
mutual
def arboristref15_start.j0 : Nat → Bool → List ByteArray → List ByteArray → List Int → List (S43) → List (S46) → Option (Bool)
 | 0, _, _, _, _, _, _ => none
 | k + 1, x33, x256000, x256001, x256002, x256003, x256004 => if x33 = true then (some true) else (arboristref15_start.l0 k 1 x256000 x256001 x256002 x256003 x256004)
def arboristref15_start.l0 : Nat → Int → List ByteArray → List ByteArray → List Int → List (S43) → List (S46) → Option (Bool)
 | 0, _, _, _, _, _, _ => none
 | k + 1, x4, x256000, x256001, x256002, x256003, x256004 => if x4 < (x256003.length : Int) then (if 0 ≤ x4 then (if ((rd_T43 x256003 x4).f0) = 0 then (some true) else (arboristref15_start.l0 k (wrap64 (x4 + 1)) x256000 x256001 x256002 x256003 x256004)) else (none)) else (some false)
end
def arboristref15_start.f (k : Nat) (l0_0 : List ByteArray) (l0_1 : List ByteArray) (l0_2 : List Int) (l0_3 : List (S43)) (l0_4 : List (S46)) : Option (Bool) := if 0 < (l0_3.length : Int) then (if ((rd_T43 l0_3 0).f0) = 0 then (if (((rd_T43 l0_3 0).f1).length : Int) = 1 then (if 0 < (((rd_T43 l0_3 0).f1).length : Int) then (if (rd ((rd_T43 l0_3 0).f1) 0) ≥ (-1) then (arboristref15_start.j0 k true l0_0 l0_1 l0_2 l0_3 l0_4) else ((arboristref15_Is.f l0_0 l0_1 l0_2 l0_3 l0_4 (rd ((rd_T43 l0_3 0).f1) 0)).bind fun t260 => (arboristref15_start.j0 k (!t260) l0_0 l0_1 l0_2 l0_3 l0_4))) else (none)) else (arboristref15_start.j0 k true l0_0 l0_1 l0_2 l0_3 l0_4)) else (arboristref15_start.j0 k true l0_0 l0_1 l0_2 l0_3 l0_4)) else (none)
theorem arboristref15_start.mono_l : ∀ k, (∀ y0 y1 y2 y3 y4 y5, LeO (arboristref15_start.j0 k y0 y1 y2 y3 y4 y5) (arboristref15_start.j0 (k + 1) y0 y1 y2 y3 y4 y5)) ∧ (∀ y0 y1 y2 y3 y4 y5, LeO (arboristref15_start.l0 k y0 y1 y2 y3 y4 y5) (arboristref15_start.l0 (k + 1) y0 y1 y2 y3 y4 y5))
 | 0 => ⟨fun _ _ _ _ _ _ r h => by simp [arboristref15_start.j0] at h, fun _ _ _ _ _ _ r h => by simp [arboristref15_start.l0] at h⟩
 | k + 1 => by
  (obtain ⟨ih0, ih1⟩ := arboristref15_start.mono_l k); (refine ⟨?_, ?_⟩)
  ·intro y0 y1 y2 y3 y4 y5
   unfold arboristref15_start.j0
   repeat' first
   | (with_reducible exact ih0 _ _ _ _ _ _)
   | (with_reducible exact ih1 _ _ _ _ _ _)
   | (with_reducible exact LeO.refl _)
   | (with_reducible exact LeO.none _)
   | (with_reducible refine LeO.ite ?_ ?_)
   | (with_reducible refine LeO.bind ?_ (fun _ => ?_))
   | exact ih0 _ _ _ _ _ _
   | exact ih1 _ _ _ _ _ _
   | exact LeO.none _
   | refine LeO.ite ?_ ?_
   | refine LeO.bind ?_ (fun _ => ?_)
  ·intro y0 y1 y2 y3 y4 y5
   unfold arboristref15_start.l0
   repeat' first
   | (with_reducible exact ih0 _ _ _ _ _ _)
   | (with_reducible exact ih1 _ _ _ _ _ _)
   | (with_reducible exact LeO.refl _)
   | (with_reducible exact LeO.none _)
   | (with_reducible refine LeO.ite ?_ ?_)
   | (with_reducible refine LeO.bind ?_ (fun _ => ?_))
   | exact ih0 _ _ _ _ _ _
   | exact ih1 _ _ _ _ _ _
   | exact LeO.none _
   | refine LeO.ite ?_ ?_
   | refine LeO.bind ?_ (fun _ => ?_)
theorem arboristref15_start.mono : ∀ a0 a1 a2 a3 a4 k, LeO (arboristref15_start.f k a0 a1 a2 a3 a4) (arboristref15_start.f (k + 1) a0 a1 a2 a3 a4) := by
 (intro a0 a1 a2 a3 a4 k); (obtain ⟨ih0, ih1⟩ := arboristref15_start.mono_l k); (unfold arboristref15_start.f)
 repeat' first
   | (with_reducible exact ih0 _ _ _ _ _ _)
   | (with_reducible exact ih1 _ _ _ _ _ _)
   | (with_reducible exact LeO.refl _)
   | (with_reducible exact LeO.none _)
   | (with_reducible refine LeO.ite ?_ ?_)
   | (with_reducible refine LeO.bind ?_ (fun _ => ?_))
   | exact ih0 _ _ _ _ _ _
   | exact ih1 _ _ _ _ _ _
   | exact LeO.none _
   | refine LeO.ite ?_ ?_
   | refine LeO.bind ?_ (fun _ => ?_)
def arboristref15_start.T2 : Bool × List (List Nat × List Nat) := (true, [([], []), ([0], [0]), ([1], [1]), ([2], [2]), ([3], [3]), ([4, 3], [3, 4]), ([5, 3], [3, 5]), ([6, 3], [3, 6]), ([3, 7], [3, 7]), ([8, 3], [8]), ([9], [9]), ([10, 9], [9, 10]), ([11, 9], [9, 11]), ([12, 9], [9, 12]), ([13, 9], [9, 13]), ([9, 14], [9, 14]), ([15, 9], [15]), ([16], [16]), ([16], [16]), ([18, 16], [16, 18]), ([19, 16], [16, 19]), ([20, 16], [16, 20]), ([17, 21, 16, 16], [16, 17, 21]), ([22, 16], [16, 22]), ([16, 23], [16, 23])])
def arboristref15_start.B2 : List Nat := [0, 1, 3, 7, 15, 31, 63, 127, 255, 511, 1023, 2047, 4095, 8191, 16383, 32767, 65535, 131071, 131071, 393215, 917503, 1966079, 4194303, 8388607, 16777215]
theorem arboristref15_start.tab2 : rtab .any (opsOf Tryd.f32 2) = arboristref15_start.T2 := by kernel_rfl
theorem arboristref15_start.bits2 : waitsOk arboristref15_start.T2.2 arboristref15_start.B2 = true := by kernel_rfl
set_option maxHeartbeats 8000000 in
set_option maxRecDepth 100000 in
theorem arboristref15_start.calls (k : Nat) (A0_0 : Option Addr) (c0_0 : Nat) (l0_0 : List ByteArray) (A0_1 : Option Addr) (c0_1 : Nat) (l0_1 : List ByteArray) (A0_2 : Option Addr) (c0_2 : Nat) (l0_2 : List Int) (A0_3 : Option Addr) (c0_3 : Nat) (l0_3 : List (S43)) (A0_4 : Option Addr) (c0_4 : Nat) (l0_4 : List (S46)) (r : Bool) (w : World) (hr0_0 : Kd.C Kd.string w A0_0 l0_0.length l0_0) (hc0_0 : l0_0.length ≤ c0_0) (hr0_1 : Kd.C Kd.string w A0_1 l0_1.length l0_1) (hc0_1 : l0_1.length ≤ c0_1) (hr0_2 : Kd.C (Kd.int .i64) w A0_2 l0_2.length l0_2) (hc0_2 : l0_2.length ≤ c0_2) (hr0_3 : Kd.C k43 w A0_3 l0_3.length l0_3) (hc0_3 : l0_3.length ≤ c0_3) (hr0_4 : Kd.C k46 w A0_4 l0_4.length l0_4) (hc0_4 : l0_4.length ≤ c0_4) (h : arboristref15_start.f k l0_0 l0_1 l0_2 l0_3 l0_4 = some r) :
  Calls Tryd.prog 32 #[.agg #[.slice A0_0 l0_0.length c0_0, .slice A0_1 l0_1.length c0_1, .slice A0_2 l0_2.length c0_2, .slice A0_3 l0_3.length c0_3, .slice A0_4 l0_4.length c0_4]] w fun e w' => e = .returned (.bool r) ∧ Below w.heap.size w w' := by
 (have hu27 := Tryd.underlying27); (have hu43 := Tryd.underlying43); (have HR0_0 := qM hr0_0); (have HC0_0 := qM hc0_0); clear hr0_0 hc0_0; (have HR0_1 := qM hr0_1); (have HC0_1 := qM hc0_1); clear hr0_1 hc0_1; (have HR0_2 := qM hr0_2); (have HC0_2 := qM hc0_2); clear hr0_2 hc0_2; (have HR0_3 := qM hr0_3); (have HC0_3 := qM hc0_3); clear hr0_3 hc0_3; (have HR0_4 := qM hr0_4); (have HC0_4 := qM hc0_4); clear hr0_4 hc0_4; (have HB := qM (Below.refl w.heap.size w)); (have H : (if 0 < (l0_3.length : Int) then (if ((rd_T43 l0_3 0).f0) = 0 then (if (((rd_T43 l0_3 0).f1).length : Int) = 1 then (if 0 < (((rd_T43 l0_3 0).f1).length : Int) then (if (rd ((rd_T43 l0_3 0).f1) 0) ≥ (-1) then (arboristref15_start.j0 k true l0_0 l0_1 l0_2 l0_3 l0_4) else ((arboristref15_Is.f l0_0 l0_1 l0_2 l0_3 l0_4 (rd ((rd_T43 l0_3 0).f1) 0)).bind fun t260 => (arboristref15_start.j0 k (!t260) l0_0 l0_1 l0_2 l0_3 l0_4))) else (none)) else (arboristref15_start.j0 k true l0_0 l0_1 l0_2 l0_3 l0_4)) else (arboristref15_start.j0 k true l0_0 l0_1 l0_2 l0_3 l0_4)) else (none)) = some r := h); clear h; (by_cases c2 : 0 < (l0_3.length : Int))
 ·rw [if_pos c2] at H
  (have c2b0 : decide (0 < (l0_3.length : Int)) = true := decide_eq_true c2); (have c2b1 : decide (0 < l0_3.length) = true := decide_eq_true (by omega)); clear c2; (have HC3 := qM H); clear H; (go_enter Tryd.func32, Tryd.ntmps32)
  go_upto_region 2 with (first | ((with_reducible refine gate_dst (N := 1) rfl ?_); (try (refine gate_guard (by rfl) ?_; dsimp only)); refine box_event ?hg (N := 1) ?hd (cs := #[.slice A0_0 l0_0.length c0_0, .slice A0_1 l0_1.length c0_1, .slice A0_2 l0_2.length c0_2, .slice A0_3 l0_3.length c0_3, .slice A0_4 l0_4.length c0_4]) (t := 27) ?hr ?_; (case hd => rfl); (case hg => rfl); (case hr => first | (go_simp; done) | (go_simp; rfl)); intro gb255 hg w4 hbox hb; have n0_ := qM (qP (by repeat (first | (with_reducible first | exact HB.out | apply qA | apply qN | apply qD) | exact HB.out)) hb); have n1_ := qM (hbox); have n2_ := qM ((by rw [hg]; exact (qZ (by repeat (first | (with_reducible first | exact HB.out | apply qA | apply qN | apply qD) | exact HB.out))) : w.heap.size ≤ gb255)); have n3_ := qM ((by rw [hg]; exact (qZ (by repeat (first | (with_reducible first | exact HB.out | apply qA | apply qN | apply qD) | exact HB.out))) : w.heap.size ≤ gb255)); clear HB; have HB := n0_; have BK255 := n1_; have GW255 := n2_; have GE255 := n3_; clear n0_ n1_ n2_ n3_; clear hb hbox hg; obtain ⟨hcz5_0, hcz5_1, hcz5_2, hcz5_3, hcz5_4, hfz5_0, hfz5_1, hfz5_2, hfz5_3, hfz5_4⟩ := bx5 BK255.out; have p256 : 0 ≤ (0 : Int) := (by omega); have q256 : 0 < (l0_3.length : Int) := qo (by first | (with_reducible assumption) | assumption); obtain ⟨ad256, A256_1, c256_1, A256_2, c256_2, e256, hx256_0, hx256_1, hx256_2, hx256_3, hx256_4, hl256_1, hi256_1, hl256_2, hi256_2⟩ := at_T43 HR0_3.out 0 p256 q256; cases e256; have qi256 : (0 < l0_3.length) = True := eq_true (by omega); (try rw [show ((0 : Int)).toNat = 0 from rfl] at hx256_0); (try rw [show 0 * 5 = 0 from rfl] at hx256_0); (try rw [Addr.add_zero'] at hx256_0); (try rw [show ((0 : Int)).toNat = 0 from rfl] at hx256_1); (try rw [show 0 * 5 = 0 from rfl] at hx256_1); (try rw [Addr.add_zero'] at hx256_1); (try rw [show ((0 : Int)).toNat = 0 from rfl] at hx256_2); (try rw [show 0 * 5 = 0 from rfl] at hx256_2); (try rw [Addr.add_zero'] at hx256_2); (try rw [show ((0 : Int)).toNat = 0 from rfl] at hx256_3); (try rw [show 0 * 5 = 0 from rfl] at hx256_3); (try rw [Addr.add_zero'] at hx256_3); (try rw [show ((0 : Int)).toNat = 0 from rfl] at hx256_4); (try rw [show 0 * 5 = 0 from rfl] at hx256_4); (try rw [Addr.add_zero'] at hx256_4); replace hx256_0 := (HB.out.cell (qB w _ hx256_0)).trans hx256_0; replace hx256_1 := (HB.out.cell (qB w _ hx256_1)).trans hx256_1; replace hx256_2 := (HB.out.cell (qB w _ hx256_2)).trans hx256_2; replace hx256_3 := (HB.out.cell (qB w _ hx256_3)).trans hx256_3; replace hx256_4 := (HB.out.cell (qB w _ hx256_4)).trans hx256_4; have HR256_1 := qM hi256_1; have HC256_1 := qM hl256_1; clear hi256_1 hl256_1; have HR256_2 := qM hi256_2; have HC256_2 := qM hl256_2; clear hi256_2 hl256_2; replace p256 := eq_true p256; replace q256 := eq_true q256) | ((with_reducible refine gate_dst (N := 3) rfl ?_); (try (refine gate_guard (by rfl) ?_; dsimp only)); refine box_event ?hg (N := 3) ?hd (cs := #[.int .i64 0, .slice none 0 0, .slice none 0 0, .string (⟨#[]⟩ : ByteArray), .int .i64 0]) (t := 43) ?hr ?_; (case hd => rfl); (case hg => rfl); (case hr => first | (go_simp; done) | (go_simp; rfl)); intro gb257 hg w6 hbox hb; have n0_ := qM (qb (g := gb255) (o := .cells #[.slice A0_0 l0_0.length c0_0, .slice A0_1 l0_1.length c0_1, .slice A0_2 l0_2.length c0_2, .slice (some ad256) l0_3.length c0_3, .slice A0_4 l0_4.length c0_4] 27 (0, 0)) (by (with_reducible repeat (first | refine qn ?_ _ | refine qd ?_ | refine qa ?_ _)); exact BK255.out) hb); have n1_ := qM (qP (by repeat (first | (with_reducible first | exact HB.out | apply qA | apply qN | apply qD | refine qS ?_ GE255.out) | exact HB.out)) hb); have n2_ := qM (hbox); have n3_ := qM ((by rw [hg]; exact (qZ (by repeat (first | (with_reducible first | exact HB.out | apply qA | apply qN | apply qD | refine qS ?_ GE255.out) | exact HB.out))) : w.heap.size ≤ gb257)); have n4_ := qM ((by rw [hg]; exact (qZ (by repeat (first | (with_reducible first | exact HB.out | apply qA | apply qN | apply qD | refine qS ?_ GE255.out) | exact HB.out))) : w.heap.size ≤ gb257)); have n5_ := qM ((by rw [hg]; exact Nat.ne_of_lt (ql (g := gb255) (o := .cells #[.slice A0_0 l0_0.length c0_0, .slice A0_1 l0_1.length c0_1, .slice A0_2 l0_2.length c0_2, .slice (some ad256) l0_3.length c0_3, .slice A0_4 l0_4.length c0_4] 27 (0, 0)) (by (with_reducible repeat (first | refine qn ?_ _ | refine qd ?_ | refine qa ?_ _)); exact BK255.out)) : gb255 ≠ gb257)); have n6_ := qM ((by rw [hg]; exact Nat.ne_of_gt (ql (g := gb255) (o := .cells #[.slice A0_0 l0_0.length c0_0, .slice A0_1 l0_1.length c0_1, .slice A0_2 l0_2.length c0_2, .slice (some ad256) l0_3.length c0_3, .slice A0_4 l0_4.length c0_4] 27 (0, 0)) (by (with_reducible repeat (first | refine qn ?_ _ | refine qd ?_ | refine qa ?_ _)); exact BK255.out)) : gb257 ≠ gb255)); clear BK255; clear HB; have BK255 := n0_; have HB := n1_; have BK257 := n2_; have GW257 := n3_; have GE257 := n4_; have NB255_257 := n5_; have NB257_255 := n6_; clear n0_ n1_ n2_ n3_ n4_ n5_ n6_; clear hb hbox hg; have hnb7 := NB257_255.out; have hnc7 := NB255_257.out; obtain ⟨hcz8_0, hcz8_1, hcz8_2, hcz8_3, hcz8_4, hfz8_0, hfz8_1, hfz8_2, hfz8_3, hfz8_4⟩ := bx5 BK257.out))
  ((try simp only [Act.put, List.setIfInBounds_toArray, List.set_cons_zero, List.set_cons_succ])); (go_cut [33] (fun v33 wc => ∃ (kq : Nat) (x33_2 : Bool), v33 = .bool x33_2 ∧ Aside0 (arboristref15_start.j0 kq x33_2 l0_0 l0_1 l0_2 l0_3 l0_4 = some r) ∧ Aside0 (kq ≤ k) ∧ Aside0 (wc.heap[gb255]? = some (.cells #[(.slice A0_0 l0_0.length c0_0), (.slice A0_1 l0_1.length c0_1), (.slice A0_2 l0_2.length c0_2), (.slice (some ad256) l0_3.length c0_3), (.slice A0_4 l0_4.length c0_4)] 27 (0, 0))) ∧ Aside0 (wc.heap[gb257]? = some (.cells #[.int .i64 ((rd_T43 l0_3 0).f0), (.slice A256_1 ((rd_T43 l0_3 0).f1).length c256_1), (.slice A256_2 ((rd_T43 l0_3 0).f2).length c256_2), .string ((rd_T43 l0_3 0).f3), .int .i64 ((rd_T43 l0_3 0).f4)] 43 (0, 0))) ∧ Aside0 (Below w.heap.size w wc)))
  case first =>
   (have H := HC3.out); clear HC3; (by_cases c9 : ((rd_T43 l0_3 0).f0) = 0)
   ·rw [if_pos c9] at H
    (have c9b0 : (((rd_T43 l0_3 0).f0) == 0) = true := beq_iff_eq.mpr c9); (have c9b1 : (((rd_T43 l0_3 0).f0) != 0) = false := bne_eq_false_iff_eq.mpr c9); clear c9; ((first | rw [c9b0] | (simp only [i64_w, i32_w]; rw [c9b0]) | skip)); (by_cases c10 : (((rd_T43 l0_3 0).f1).length : Int) = 1)
    ·rw [if_pos c10] at H
     (have c10b0 : ((((rd_T43 l0_3 0).f1).length : Int) == 1) = true := beq_iff_eq.mpr c10); (have c10b1 : ((((rd_T43 l0_3 0).f1).length : Int) != 1) = false := bne_eq_false_iff_eq.mpr c10); clear c10; (by_cases c11 : 0 < (((rd_T43 l0_3 0).f1).length : Int))
     ·rw [if_pos c11] at H
      (have c11b0 : decide (0 < (((rd_T43 l0_3 0).f1).length : Int)) = true := decide_eq_true c11); (have c11b1 : decide (0 < ((rd_T43 l0_3 0).f1).length) = true := decide_eq_true (by omega)); clear c11; (by_cases c12 : (rd ((rd_T43 l0_3 0).f1) 0) ≥ (-1))
      ·rw [if_pos c12] at H
       (have c12b0 : decide ((-1) ≤ (rd ((rd_T43 l0_3 0).f1) 0)) = true := decide_eq_true c12); clear c12; (have H' := qM H); clear H; (try go_wp2)
       have n0_ : Aside0 ((((((w6.setCell ⟨gb257, 0, none⟩ (.int .i64 ((rd_T43 l0_3 0).f0))).setCell ⟨gb257, 1, none⟩ (.slice A256_1 ((rd_T43 l0_3 0).f1).length c256_1)).setCell ⟨gb257, 2, none⟩ (.slice A256_2 ((rd_T43 l0_3 0).f2).length c256_2)).setCell ⟨gb257, 3, none⟩ (.string ((rd_T43 l0_3 0).f3))).setCell ⟨gb257, 4, none⟩ (.int .i64 ((rd_T43 l0_3 0).f4))).heap[gb255]? = some (.cells #[.slice A0_0 l0_0.length c0_0, .slice A0_1 l0_1.length c0_1, .slice A0_2 l0_2.length c0_2, .slice (some ad256) l0_3.length c0_3, .slice A0_4 l0_4.length c0_4] 27 (0, 0))) := ⟨by (with_reducible repeat (first | refine qn ?_ _ | refine qd ?_ | refine qa ?_ _)); refine qf ?_ NB255_257.out _; (with_reducible repeat (first | refine qn ?_ _ | refine qd ?_ | refine qa ?_ _)); refine qf ?_ NB255_257.out _; (with_reducible repeat (first | refine qn ?_ _ | refine qd ?_ | refine qa ?_ _)); refine qf ?_ NB255_257.out _; (with_reducible repeat (first | refine qn ?_ _ | refine qd ?_ | refine qa ?_ _)); refine qf ?_ NB255_257.out _; (with_reducible repeat (first | refine qn ?_ _ | refine qd ?_ | refine qa ?_ _)); refine qf ?_ NB255_257.out _; (with_reducible repeat (first | refine qn ?_ _ | refine qd ?_ | refine qa ?_ _)); exact BK255.out⟩
       have n1_ : Aside0 ((((((w6.setCell ⟨gb257, 0, none⟩ (.int .i64 ((rd_T43 l0_3 0).f0))).setCell ⟨gb257, 1, none⟩ (.slice A256_1 ((rd_T43 l0_3 0).f1).length c256_1)).setCell ⟨gb257, 2, none⟩ (.slice A256_2 ((rd_T43 l0_3 0).f2).length c256_2)).setCell ⟨gb257, 3, none⟩ (.string ((rd_T43 l0_3 0).f3))).setCell ⟨gb257, 4, none⟩ (.int .i64 ((rd_T43 l0_3 0).f4))).heap[gb257]? = some (.cells #[.int .i64 ((rd_T43 l0_3 0).f0), .slice A256_1 ((rd_T43 l0_3 0).f1).length c256_1, .slice A256_2 ((rd_T43 l0_3 0).f2).length c256_2, .string ((rd_T43 l0_3 0).f3), .int .i64 ((rd_T43 l0_3 0).f4)] 43 (0, 0))) := ⟨by (with_reducible repeat (first | refine qn ?_ _ | refine qd ?_ | refine qa ?_ _)); refine blk_put (cs := #[.int .i64 ((rd_T43 l0_3 0).f0), .slice A256_1 ((rd_T43 l0_3 0).f1).length c256_1, .slice A256_2 ((rd_T43 l0_3 0).f2).length c256_2, .string ((rd_T43 l0_3 0).f3), .int .i64 0]) ?_ 4 _ rfl; (with_reducible repeat (first | refine qn ?_ _ | refine qd ?_ | refine qa ?_ _)); refine blk_put (cs := #[.int .i64 ((rd_T43 l0_3 0).f0), .slice A256_1 ((rd_T43 l0_3 0).f1).length c256_1, .slice A256_2 ((rd_T43 l0_3 0).f2).length c256_2, .string (⟨#[]⟩ : ByteArray), .int .i64 0]) ?_ 3 _ rfl; (with_reducible repeat (first | refine qn ?_ _ | refine qd ?_ | refine qa ?_ _)); refine blk_put (cs := #[.int .i64 ((rd_T43 l0_3 0).f0), .slice A256_1 ((rd_T43 l0_3 0).f1).length c256_1, .slice none 0 0, .string (⟨#[]⟩ : ByteArray), .int .i64 0]) ?_ 2 _ rfl; (with_reducible repeat (first | refine qn ?_ _ | refine qd ?_ | refine qa ?_ _)); refine blk_put (cs := #[.int .i64 ((rd_T43 l0_3 0).f0), .slice none 0 0, .slice none 0 0, .string (⟨#[]⟩ : ByteArray), .int .i64 0]) ?_ 1 _ rfl; (with_reducible repeat (first | refine qn ?_ _ | refine qd ?_ | refine qa ?_ _)); refine blk_put (cs := #[.int .i64 0, .slice none 0 0, .slice none 0 0, .string (⟨#[]⟩ : ByteArray), .int .i64 0]) ?_ 0 _ rfl; (with_reducible repeat (first | refine qn ?_ _ | refine qd ?_ | refine qa ?_ _)); exact BK257.out⟩
       (have n2_ : Aside0 (Below w.heap.size w (((((w6.setCell ⟨gb257, 0, none⟩ (.int .i64 ((rd_T43 l0_3 0).f0))).setCell ⟨gb257, 1, none⟩ (.slice A256_1 ((rd_T43 l0_3 0).f1).length c256_1)).setCell ⟨gb257, 2, none⟩ (.slice A256_2 ((rd_T43 l0_3 0).f2).length c256_2)).setCell ⟨gb257, 3, none⟩ (.string ((rd_T43 l0_3 0).f3))).setCell ⟨gb257, 4, none⟩ (.int .i64 ((rd_T43 l0_3 0).f4)))) := ⟨by repeat (first | (with_reducible first | exact HB.out | apply qA | apply qN | apply qD | refine qS ?_ GE255.out | refine qS ?_ GE257.out) | exact HB.out)⟩); ((try clear BK255)); ((try clear BK257)); ((try clear HB)); (generalize (((((w6.setCell ⟨gb257, 0, none⟩ (.int .i64 ((rd_T43 l0_3 0).f0))).setCell ⟨gb257, 1, none⟩ (.slice A256_1 ((rd_T43 l0_3 0).f1).length c256_1)).setCell ⟨gb257, 2, none⟩ (.slice A256_2 ((rd_T43 l0_3 0).f2).length c256_2)).setCell ⟨gb257, 3, none⟩ (.string ((rd_T43 l0_3 0).f3))).setCell ⟨gb257, 4, none⟩ (.int .i64 ((rd_T43 l0_3 0).f4))) = w13 at n0_ n1_ n2_ ⊢); (have BK255 := n0_); (have BK257 := n1_); (have HB := n2_); clear n0_ n1_ n2_; (have n0_ := qM (qd BK255.out)); (have n1_ := qM (qd BK257.out)); (have n2_ := qM (qD HB.out)); clear BK255 BK257 HB; (have BK255 := n0_); (have BK257 := n1_); (have HB := n2_); clear n0_ n1_ n2_; (have p258 : 0 ≤ (0 : Int) := (by omega)); (have q258 : 0 < (((rd_T43 l0_3 0).f1).length : Int) := qo (by first | (with_reducible assumption) | assumption)); (obtain ⟨ad258, e258, hx258_0⟩ := Kd.at_int HR256_1.out 0 p258 q258); (have hw258_0 := hx258_0); ((try rw [show ((0 : Int)).toNat = 0 from rfl] at hw258_0)); ((try rw [show 0 * 1 = 0 from rfl] at hw258_0)); ((try rw [Addr.add_zero'] at hw258_0))
       cases e258
       (have qi258 : (0 < ((rd_T43 l0_3 0).f1).length) = True := eq_true (by omega)); ((try rw [show ((0 : Int)).toNat = 0 from rfl] at hx258_0)); ((try rw [Addr.add_zero'] at hx258_0)); (replace hx258_0 := (HB.out.cell (qB w _ hx258_0)).trans hx258_0); (replace p258 := eq_true p258); (replace q258 := eq_true q258)
       refine start_ (n := 25) (S := fun w' => w'.cell? ⟨gb257, 0, none⟩ = some (.int .i64 ((rd_T43 l0_3 0).f0)) ∧ w'.cell? ⟨gb257, 1, none⟩ = some (.slice (some ad258) ((rd_T43 l0_3 0).f1).length c256_1) ∧ w'.cell? ⟨gb257, 2, none⟩ = some (.slice A256_2 ((rd_T43 l0_3 0).f2).length c256_2) ∧ w'.cell? ⟨gb257, 3, none⟩ = some (.string ((rd_T43 l0_3 0).f3)) ∧ w'.cell? ⟨gb257, 4, none⟩ = some (.int .i64 ((rd_T43 l0_3 0).f4)) ∧ w'.cell? ad258 = some (.int .i64 (rd ((rd_T43 l0_3 0).f1) 0))) (ds := []) #[false, false, false, false, false, false, false, false, false, false, false, false, false, false, false, false, false, false, false, false, false, false, false, false, false] (by kernel_rfl) rfl rfl ⟨(blk_cell BK257.out 0).trans rfl, (blk_cell BK257.out 1).trans rfl, (blk_cell BK257.out 2).trans rfl, (blk_cell BK257.out 3).trans rfl, (blk_cell BK257.out 4).trans rfl, ((HB.out.cell (qB w _ hw258_0)).trans hw258_0)⟩ (fun hHeld => ?_); refine with_tabW arboristref15_start.tab2 arboristref15_start.bits2 (fun HT_ HW_ => ?_)
       (generalize w13.drew = w14 at BK255 BK257 HB hx258_0 hHeld ⊢); (refine pure_ (i := 0) (N := some 9) (v := ?_) (a' := ?_) #[true, false, false, false, false, false, false, false, false, false, false, false, false, false, false, false, false, false, false, false, false, false, false, false, false] rfl rfl (any_of HT_.out (by kernel_rfl)) (fun _ _ _ h => h) (Or.inl ⟨by rfl, ?_⟩) ?_ ?_); rotate_left; ((intro w'; go_simp; with_reducible rfl)); rotate_left; ((simp only [Act.put, List.setIfInBounds_toArray, List.set_cons_zero, List.set_cons_succ, i64_w, i32_w]; rfl)); (refine take_ (i := 1) (N := some 10) (v := ?_) (a' := ?_) #[true, true, false, false, false, false, false, false, false, false, false, false, false, false, false, false, false, false, false, false, false, false, false, false, false] rfl rfl (take_ofW HT_.out HW_.out (by kernel_rfl)) (fun _ _ _ h => h) (Or.inl ⟨by rfl, ?_⟩) hHeld ?_ ?_); rotate_left
       ·rintro w' ⟨s0, s1, s2, s3, s4, s5⟩
        (go_simp); (with_reducible rfl)
       rotate_left; ((simp only [Act.put, List.setIfInBounds_toArray, List.set_cons_zero, List.set_cons_succ, i64_w, i32_w]; rfl)); (refine pure_ (i := 2) (N := some 11) (v := ?_) (a' := ?_) #[true, true, true, false, false, false, false, false, false, false, false, false, false, false, false, false, false, false, false, false, false, false, false, false, false] rfl rfl (any_of HT_.out (by kernel_rfl)) (fun _ _ _ h => h) (Or.inl ⟨by rfl, ?_⟩) ?_ ?_); rotate_left; ((intro w'; go_simp; with_reducible rfl)); rotate_left; ((simp only [Act.put, List.setIfInBounds_toArray, List.set_cons_zero, List.set_cons_succ, i64_w, i32_w]; rfl)); (refine pure_ (i := 3) (N := some 12) (v := ?_) (a' := ?_) #[true, true, true, true, false, false, false, false, false, false, false, false, false, false, false, false, false, false, false, false, false, false, false, false, false] rfl rfl (any_of HT_.out (by kernel_rfl)) (fun _ _ _ h => h) (Or.inl ⟨by rfl, ?_⟩) ?_ ?_); rotate_left; ((intro w'; go_simp; with_reducible rfl)); rotate_left; ((simp only [Act.put, List.setIfInBounds_toArray, List.set_cons_zero, List.set_cons_succ, i64_w, i32_w]; rfl)); (refine pure_ (i := 4) (N := some 13) (v := ?_) (a' := ?_) #[true, true, true, true, true, false, false, false, false, false, false, false, false, false, false, false, false, false, false, false, false, false, false, false, false] rfl rfl (any_of HT_.out (by kernel_rfl)) (fun _ _ _ h => h) (Or.inl ⟨by rfl, ?_⟩) ?_ ?_); rotate_left; ((intro w'; go_simp; with_reducible rfl)); rotate_left; ((simp only [Act.put, List.setIfInBounds_toArray, List.set_cons_zero, List.set_cons_succ, i64_w, i32_w]; rfl)); (refine take_ (i := 5) (N := some 14) (v := ?_) (a' := ?_) #[true, true, true, true, true, true, false, false, false, false, false, false, false, false, false, false, false, false, false, false, false, false, false, false, false] rfl rfl (take_ofW HT_.out HW_.out (by kernel_rfl)) (fun _ _ _ h => h) (Or.inl ⟨by rfl, ?_⟩) hHeld ?_ ?_); rotate_left
       ·rintro w' ⟨s0, s1, s2, s3, s4, s5⟩
        (go_simp); (with_reducible rfl)
       rotate_left; ((simp only [Act.put, List.setIfInBounds_toArray, List.set_cons_zero, List.set_cons_succ, i64_w, i32_w]; rfl)); (refine pure_ (i := 6) (N := some 15) (v := ?_) (a' := ?_) #[true, true, true, true, true, true, true, false, false, false, false, false, false, false, false, false, false, false, false, false, false, false, false, false, false] rfl rfl (any_of HT_.out (by kernel_rfl)) (fun _ _ _ h => h) (Or.inl ⟨by rfl, ?_⟩) ?_ ?_); rotate_left; ((intro w'; go_simp; with_reducible rfl)); rotate_left; ((simp only [Act.put, List.setIfInBounds_toArray, List.set_cons_zero, List.set_cons_succ, i64_w, i32_w]; rfl)); (refine pure_ (i := 7) (N := some 16) (v := ?_) (a' := ?_) #[true, true, true, true, true, true, true, true, false, false, false, false, false, false, false, false, false, false, false, false, false, false, false, false, false] rfl rfl (any_of HT_.out (by kernel_rfl)) (fun _ _ _ h => h) (Or.inl ⟨by rfl, ?_⟩) ?_ ?_); rotate_left; ((intro w'; go_simp; with_reducible rfl)); rotate_left; ((simp only [Act.put, List.setIfInBounds_toArray, List.set_cons_zero, List.set_cons_succ, i64_w, i32_w]; rfl)); (refine pure_ (i := 8) (N := some 17) (v := ?_) (a' := ?_) #[true, true, true, true, true, true, true, true, true, false, false, false, false, false, false, false, false, false, false, false, false, false, false, false, false] rfl rfl (any_of HT_.out (by kernel_rfl)) (fun _ _ _ h => h) (Or.inl ⟨by rfl, ?_⟩) ?_ ?_); rotate_left; ((intro w'; go_simp; with_reducible rfl)); rotate_left; ((simp only [Act.put, List.setIfInBounds_toArray, List.set_cons_zero, List.set_cons_succ, i64_w, i32_w]; rfl)); (refine pure_ (i := 9) (N := some 18) (v := ?_) (a' := ?_) #[true, true, true, true, true, true, true, true, true, true, false, false, false, false, false, false, false, false, false, false, false, false, false, false, false] rfl rfl (any_of HT_.out (by kernel_rfl)) (fun _ _ _ h => h) (Or.inl ⟨by rfl, ?_⟩) ?_ ?_); rotate_left; ((intro w'; go_simp; with_reducible rfl)); rotate_left; ((simp only [Act.put, List.setIfInBounds_toArray, List.set_cons_zero, List.set_cons_succ, i64_w, i32_w]; rfl)); (refine pure_ (i := 10) (N := some 19) (v := ?_) (a' := ?_) #[true, true, true, true, true, true, true, true, true, true, true, false, false, false, false, false, false, false, false, false, false, false, false, false, false] rfl rfl (any_of HT_.out (by kernel_rfl)) (fun _ _ _ h => h) (Or.inl ⟨by rfl, ?_⟩) ?_ ?_); rotate_left; ((intro w'; go_simp; with_reducible rfl)); rotate_left; ((simp only [Act.put, List.setIfInBounds_toArray, List.set_cons_zero, List.set_cons_succ, i64_w, i32_w]; rfl))
       (refine take_ (i := 11) (N := some 20) (v := ?_) (a' := ?_) #[true, true, true, true, true, true, true, true, true, true, true, true, false, false, false, false, false, false, false, false, false, false, false, false, false] rfl rfl (take_ofW HT_.out HW_.out (by kernel_rfl)) (fun _ _ _ h => h) (Or.inl ⟨by rfl, ?_⟩) hHeld ?_ ?_); rotate_left
       ·rintro w' ⟨s0, s1, s2, s3, s4, s5⟩
        (go_simp); (with_reducible rfl)
       rotate_left; ((simp only [Act.put, List.setIfInBounds_toArray, List.set_cons_zero, List.set_cons_succ, i64_w, i32_w]; rfl)); (refine pure_ (i := 12) (N := some 21) (v := ?_) (a' := ?_) #[true, true, true, true, true, true, true, true, true, true, true, true, true, false, false, false, false, false, false, false, false, false, false, false, false] rfl rfl (any_of HT_.out (by kernel_rfl)) (fun _ _ _ h => h) (Or.inl ⟨by rfl, ?_⟩) ?_ ?_); rotate_left; ((intro w'; go_simp; with_reducible rfl)); rotate_left; ((simp only [Act.put, List.setIfInBounds_toArray, List.set_cons_zero, List.set_cons_succ, i64_w, i32_w]; rfl)); (refine take_ (i := 13) (N := some 22) (v := ?_) (a' := ?_) #[true, true, true, true, true, true, true, true, true, true, true, true, true, true, false, false, false, false, false, false, false, false, false, false, false] rfl rfl (take_ofW HT_.out HW_.out (by kernel_rfl)) (fun _ _ _ h => h) (Or.inl ⟨by rfl, ?_⟩) hHeld ?_ ?_); rotate_left
       ·rintro w' ⟨s0, s1, s2, s3, s4, s5⟩
        (go_simp); (with_reducible rfl)
       rotate_left; ((simp only [Act.put, List.setIfInBounds_toArray, List.set_cons_zero, List.set_cons_succ, i64_w, i32_w]; rfl)); (refine pure_ (i := 14) (N := some 23) (v := ?_) (a' := ?_) #[true, true, true, true, true, true, true, true, true, true, true, true, true, true, true, false, false, false, false, false, false, false, false, false, false] rfl rfl (any_of HT_.out (by kernel_rfl)) (fun _ _ _ h => h) (Or.inl ⟨by rfl, ?_⟩) ?_ ?_); rotate_left; ((intro w'; go_simp; with_reducible rfl)); rotate_left; ((simp only [Act.put, List.setIfInBounds_toArray, List.set_cons_zero, List.set_cons_succ, i64_w, i32_w]; rfl)); (refine pure_ (i := 15) (N := some 24) (v := ?_) (a' := ?_) #[true, true, true, true, true, true, true, true, true, true, true, true, true, true, true, true, false, false, false, false, false, false, false, false, false] rfl rfl (any_of HT_.out (by kernel_rfl)) (fun _ _ _ h => h) (Or.inl ⟨by rfl, ?_⟩) ?_ ?_); rotate_left; ((intro w'; go_simp; with_reducible rfl)); rotate_left; ((simp only [Act.put, List.setIfInBounds_toArray, List.set_cons_zero, List.set_cons_succ, i64_w, i32_w]; rfl)); (refine pure_ (i := 16) (N := some 25) (v := ?_) (a' := ?_) #[true, true, true, true, true, true, true, true, true, true, true, true, true, true, true, true, true, false, false, false, false, false, false, false, false] rfl rfl (any_of HT_.out (by kernel_rfl)) (fun _ _ _ h => h) (Or.inl ⟨by rfl, ?_⟩) ?_ ?_); rotate_left; ((intro w'; go_simp; with_reducible rfl)); rotate_left; ((simp only [Act.put, List.setIfInBounds_toArray, List.set_cons_zero, List.set_cons_succ, i64_w, i32_w]; rfl)); (refine pure_ (i := 17) (N := some 26) (v := undef) (a' := ?_) #[true, true, true, true, true, true, true, true, true, true, true, true, true, true, true, true, true, true, false, false, false, false, false, false, false] rfl rfl (any_of HT_.out (by kernel_rfl)) (fun _ _ _ h => h) (Or.inr ⟨by rfl, rfl⟩) ?_ ?_); rotate_left; ((simp only [Act.put, List.setIfInBounds_toArray, List.set_cons_zero, List.set_cons_succ, i64_w, i32_w]; rfl)); (refine pure_ (i := 18) (N := some 27) (v := undef) (a' := ?_) #[true, true, true, true, true, true, true, true, true, true, true, true, true, true, true, true, true, true, true, false, false, false, false, false, false] rfl rfl (any_of HT_.out (by kernel_rfl)) (fun _ _ _ h => h) (Or.inr ⟨by rfl, rfl⟩) ?_ ?_); rotate_left; ((simp only [Act.put, List.setIfInBounds_toArray, List.set_cons_zero, List.set_cons_succ, i64_w, i32_w]; rfl)); (refine pure_ (i := 19) (N := some 28) (v := undef) (a' := ?_) #[true, true, true, true, true, true, true, true, true, true, true, true, true, true, true, true, true, true, true, true, false, false, false, false, false] rfl rfl (any_of HT_.out (by kernel_rfl)) (fun _ _ _ h => h) (Or.inr ⟨by rfl, rfl⟩) ?_ ?_)
       rotate_left; ((simp only [Act.put, List.setIfInBounds_toArray, List.set_cons_zero, List.set_cons_succ, i64_w, i32_w]; rfl)); (refine pure_ (i := 20) (N := some 29) (v := undef) (a' := ?_) #[true, true, true, true, true, true, true, true, true, true, true, true, true, true, true, true, true, true, true, true, true, false, false, false, false] rfl rfl (any_of HT_.out (by kernel_rfl)) (fun _ _ _ h => h) (Or.inr ⟨by rfl, rfl⟩) ?_ ?_); rotate_left; ((simp only [Act.put, List.setIfInBounds_toArray, List.set_cons_zero, List.set_cons_succ, i64_w, i32_w]; rfl)); (refine pure_ (i := 21) (N := some 30) (v := undef) (a' := ?_) #[true, true, true, true, true, true, true, true, true, true, true, true, true, true, true, true, true, true, true, true, true, true, false, false, false] rfl rfl (any_of HT_.out (by kernel_rfl)) (fun _ _ _ h => h) (Or.inr ⟨by rfl, rfl⟩) ?_ ?_); rotate_left; ((simp only [Act.put, List.setIfInBounds_toArray, List.set_cons_zero, List.set_cons_succ, i64_w, i32_w]; rfl)); (refine pure_ (i := 22) (N := some 31) (v := undef) (a' := ?_) #[true, true, true, true, true, true, true, true, true, true, true, true, true, true, true, true, true, true, true, true, true, true, true, false, false] rfl rfl (any_of HT_.out (by kernel_rfl)) (fun _ _ _ h => h) (Or.inr ⟨by rfl, rfl⟩) ?_ ?_); rotate_left; ((simp only [Act.put, List.setIfInBounds_toArray, List.set_cons_zero, List.set_cons_succ, i64_w, i32_w]; rfl)); (refine pure_ (i := 23) (N := some 32) (v := undef) (a' := ?_) #[true, true, true, true, true, true, true, true, true, true, true, true, true, true, true, true, true, true, true, true, true, true, true, true, false] rfl rfl (any_of HT_.out (by kernel_rfl)) (fun _ _ _ h => h) (Or.inr ⟨by rfl, rfl⟩) ?_ ?_); rotate_left; ((simp only [Act.put, List.setIfInBounds_toArray, List.set_cons_zero, List.set_cons_succ, i64_w, i32_w]; rfl)); (refine pure_ (i := 24) (N := some 33) (v := ?_) (a' := ?_) #[true, true, true, true, true, true, true, true, true, true, true, true, true, true, true, true, true, true, true, true, true, true, true, true, true] rfl rfl (any_of HT_.out (by kernel_rfl)) (fun _ _ _ h => h) (Or.inl ⟨by rfl, ?_⟩) ?_ ?_); rotate_left; ((intro w'; go_simp; with_reducible rfl)); rotate_left; ((simp only [Act.put, List.setIfInBounds_toArray, List.set_cons_zero, List.set_cons_succ, i64_w, i32_w]; rfl)); (refine done_ (done_of HT_.out (by kernel_rfl)) ?_); (try go_wp2); go_meet
       case rel => exact ⟨_, (true), (by first | rfl | (simp; done) | (simp [*]; done)), H', ⟨by first | omega | exact Nat.le_refl _⟩, ⟨by (with_reducible repeat (first | refine qn ?_ _ | refine qd ?_ | refine qa ?_ _)); exact BK255.out⟩, ⟨by (with_reducible repeat (first | refine qn ?_ _ | refine qd ?_ | refine qa ?_ _)); exact BK257.out⟩, ⟨by repeat (first | (with_reducible first | exact HB.out | apply qA | apply qN | apply qD | refine qS ?_ GE255.out | refine qS ?_ GE257.out) | exact HB.out)⟩⟩
      ·rw [if_neg c12] at H
       (have c12b0 : decide ((-1) ≤ (rd ((rd_T43 l0_3 0).f1) 0)) = false := decide_eq_false c12); clear c12; (replace H := Option.bind_eq_some_iff.mp H); (obtain ⟨t260, A150, H⟩ := H); (replace H : (arboristref15_start.j0 k (!t260) l0_0 l0_1 l0_2 l0_3 l0_4) = some r := H); (have A15 := qM A150); clear A150; (have H' := qM H); clear H; (try go_wp2)
       have n0_ : Aside0 ((((((w6.setCell ⟨gb257, 0, none⟩ (.int .i64 ((rd_T43 l0_3 0).f0))).setCell ⟨gb257, 1, none⟩ (.slice A256_1 ((rd_T43 l0_3 0).f1).length c256_1)).setCell ⟨gb257, 2, none⟩ (.slice A256_2 ((rd_T43 l0_3 0).f2).length c256_2)).setCell ⟨gb257, 3, none⟩ (.string ((rd_T43 l0_3 0).f3))).setCell ⟨gb257, 4, none⟩ (.int .i64 ((rd_T43 l0_3 0).f4))).heap[gb255]? = some (.cells #[.slice A0_0 l0_0.length c0_0, .slice A0_1 l0_1.length c0_1, .slice A0_2 l0_2.length c0_2, .slice (some ad256) l0_3.length c0_3, .slice A0_4 l0_4.length c0_4] 27 (0, 0))) := ⟨by (with_reducible repeat (first | refine qn ?_ _ | refine qd ?_ | refine qa ?_ _)); refine qf ?_ NB255_257.out _; (with_reducible repeat (first | refine qn ?_ _ | refine qd ?_ | refine qa ?_ _)); refine qf ?_ NB255_257.out _; (with_reducible repeat (first | refine qn ?_ _ | refine qd ?_ | refine qa ?_ _)); refine qf ?_ NB255_257.out _; (with_reducible repeat (first | refine qn ?_ _ | refine qd ?_ | refine qa ?_ _)); refine qf ?_ NB255_257.out _; (with_reducible repeat (first | refine qn ?_ _ | refine qd ?_ | refine qa ?_ _)); refine qf ?_ NB255_257.out _; (with_reducible repeat (first | refine qn ?_ _ | refine qd ?_ | refine qa ?_ _)); exact BK255.out⟩
       have n1_ : Aside0 ((((((w6.setCell ⟨gb257, 0, none⟩ (.int .i64 ((rd_T43 l0_3 0).f0))).setCell ⟨gb257, 1, none⟩ (.slice A256_1 ((rd_T43 l0_3 0).f1).length c256_1)).setCell ⟨gb257, 2, none⟩ (.slice A256_2 ((rd_T43 l0_3 0).f2).length c256_2)).setCell ⟨gb257, 3, none⟩ (.string ((rd_T43 l0_3 0).f3))).setCell ⟨gb257, 4, none⟩ (.int .i64 ((rd_T43 l0_3 0).f4))).heap[gb257]? = some (.cells #[.int .i64 ((rd_T43 l0_3 0).f0), .slice A256_1 ((rd_T43 l0_3 0).f1).length c256_1, .slice A256_2 ((rd_T43 l0_3 0).f2).length c256_2, .string ((rd_T43 l0_3 0).f3), .int .i64 ((rd_T43 l0_3 0).f4)] 43 (0, 0))) := ⟨by (with_reducible repeat (first | refine qn ?_ _ | refine qd ?_ | refine qa ?_ _)); refine blk_put (cs := #[.int .i64 ((rd_T43 l0_3 0).f0), .slice A256_1 ((rd_T43 l0_3 0).f1).length c256_1, .slice A256_2 ((rd_T43 l0_3 0).f2).length c256_2, .string ((rd_T43 l0_3 0).f3), .int .i64 0]) ?_ 4 _ rfl; (with_reducible repeat (first | refine qn ?_ _ | refine qd ?_ | refine qa ?_ _)); refine blk_put (cs := #[.int .i64 ((rd_T43 l0_3 0).f0), .slice A256_1 ((rd_T43 l0_3 0).f1).length c256_1, .slice A256_2 ((rd_T43 l0_3 0).f2).length c256_2, .string (⟨#[]⟩ : ByteArray), .int .i64 0]) ?_ 3 _ rfl; (with_reducible repeat (first | refine qn ?_ _ | refine qd ?_ | refine qa ?_ _)); refine blk_put (cs := #[.int .i64 ((rd_T43 l0_3 0).f0), .slice A256_1 ((rd_T43 l0_3 0).f1).length c256_1, .slice none 0 0, .string (⟨#[]⟩ : ByteArray), .int .i64 0]) ?_ 2 _ rfl; (with_reducible repeat (first | refine qn ?_ _ | refine qd ?_ | refine qa ?_ _)); refine blk_put (cs := #[.int .i64 ((rd_T43 l0_3 0).f0), .slice none 0 0, .slice none 0 0, .string (⟨#[]⟩ : ByteArray), .int .i64 0]) ?_ 1 _ rfl; (with_reducible repeat (first | refine qn ?_ _ | refine qd ?_ | refine qa ?_ _)); refine blk_put (cs := #[.int .i64 0, .slice none 0 0, .slice none 0 0, .string (⟨#[]⟩ : ByteArray), .int .i64 0]) ?_ 0 _ rfl; (with_reducible repeat (first | refine qn ?_ _ | refine qd ?_ | refine qa ?_ _)); exact BK257.out⟩
       (have n2_ : Aside0 (Below w.heap.size w (((((w6.setCell ⟨gb257, 0, none⟩ (.int .i64 ((rd_T43 l0_3 0).f0))).setCell ⟨gb257, 1, none⟩ (.slice A256_1 ((rd_T43 l0_3 0).f1).length c256_1)).setCell ⟨gb257, 2, none⟩ (.slice A256_2 ((rd_T43 l0_3 0).f2).length c256_2)).setCell ⟨gb257, 3, none⟩ (.string ((rd_T43 l0_3 0).f3))).setCell ⟨gb257, 4, none⟩ (.int .i64 ((rd_T43 l0_3 0).f4)))) := ⟨by repeat (first | (with_reducible first | exact HB.out | apply qA | apply qN | apply qD | refine qS ?_ GE255.out | refine qS ?_ GE257.out) | exact HB.out)⟩); ((try clear BK255)); ((try clear BK257)); ((try clear HB)); (generalize (((((w6.setCell ⟨gb257, 0, none⟩ (.int .i64 ((rd_T43 l0_3 0).f0))).setCell ⟨gb257, 1, none⟩ (.slice A256_1 ((rd_T43 l0_3 0).f1).length c256_1)).setCell ⟨gb257, 2, none⟩ (.slice A256_2 ((rd_T43 l0_3 0).f2).length c256_2)).setCell ⟨gb257, 3, none⟩ (.string ((rd_T43 l0_3 0).f3))).setCell ⟨gb257, 4, none⟩ (.int .i64 ((rd_T43 l0_3 0).f4))) = w16 at n0_ n1_ n2_ ⊢); (have BK255 := n0_); (have BK257 := n1_); (have HB := n2_); clear n0_ n1_ n2_; (have n0_ := qM (qd BK255.out)); (have n1_ := qM (qd BK257.out)); (have n2_ := qM (qD HB.out)); clear BK255 BK257 HB; (have BK255 := n0_); (have BK257 := n1_); (have HB := n2_); clear n0_ n1_ n2_; (have p258 : 0 ≤ (0 : Int) := (by omega)); (have q258 : 0 < (((rd_T43 l0_3 0).f1).length : Int) := qo (by first | (with_reducible assumption) | assumption)); (obtain ⟨ad258, e258, hx258_0⟩ := Kd.at_int HR256_1.out 0 p258 q258); (have hw258_0 := hx258_0); ((try rw [show ((0 : Int)).toNat = 0 from rfl] at hw258_0)); ((try rw [show 0 * 1 = 0 from rfl] at hw258_0)); ((try rw [Addr.add_zero'] at hw258_0))
       cases e258
       (have qi258 : (0 < ((rd_T43 l0_3 0).f1).length) = True := eq_true (by omega)); ((try rw [show ((0 : Int)).toNat = 0 from rfl] at hx258_0)); ((try rw [Addr.add_zero'] at hx258_0)); (replace hx258_0 := (HB.out.cell (qB w _ hx258_0)).trans hx258_0); (replace p258 := eq_true p258); (replace q258 := eq_true q258); (have p259 : 0 ≤ (0 : Int) := (by omega)); (have q259 : 0 < (((rd_T43 l0_3 0).f1).length : Int) := qo (by first | (with_reducible assumption) | assumption)); (obtain ⟨ad259, e259, hx259_0⟩ := Kd.at_int HR256_1.out 0 p259 q259); (have hw259_0 := hx259_0); ((try rw [show ((0 : Int)).toNat = 0 from rfl] at hw259_0)); ((try rw [show 0 * 1 = 0 from rfl] at hw259_0)); ((try rw [Addr.add_zero'] at hw259_0)); (obtain rfl : ad258 = ad259 := (by injection e259)); (have qi259 : (0 < ((rd_T43 l0_3 0).f1).length) = True := eq_true (by omega)); ((try rw [show ((0 : Int)).toNat = 0 from rfl] at hx259_0)); ((try rw [Addr.add_zero'] at hx259_0)); (replace hx259_0 := (HB.out.cell (qB w _ hx259_0)).trans hx259_0); (replace p259 := eq_true p259); (replace q259 := eq_true q259)
       refine start_ (n := 25) (S := fun w' => w'.cell? ⟨gb257, 0, none⟩ = some (.int .i64 ((rd_T43 l0_3 0).f0)) ∧ w'.cell? ⟨gb257, 1, none⟩ = some (.slice (some ad258) ((rd_T43 l0_3 0).f1).length c256_1) ∧ w'.cell? ⟨gb257, 2, none⟩ = some (.slice A256_2 ((rd_T43 l0_3 0).f2).length c256_2) ∧ w'.cell? ⟨gb257, 3, none⟩ = some (.string ((rd_T43 l0_3 0).f3)) ∧ w'.cell? ⟨gb257, 4, none⟩ = some (.int .i64 ((rd_T43 l0_3 0).f4)) ∧ w'.cell? ⟨gb255, 0, none⟩ = some (.slice A0_0 l0_0.length c0_0) ∧ w'.cell? ⟨gb255, 1, none⟩ = some (.slice A0_1 l0_1.length c0_1) ∧ w'.cell? ⟨gb255, 2, none⟩ = some (.slice A0_2 l0_2.length c0_2) ∧ w'.cell? ⟨gb255, 3, none⟩ = some (.slice (some ad256) l0_3.length c0_3) ∧ w'.cell? ⟨gb255, 4, none⟩ = some (.slice A0_4 l0_4.length c0_4) ∧ w'.cell? ad258 = some (.int .i64 (rd ((rd_T43 l0_3 0).f1) 0)) ∧ w'.cell? ad258 = some (.int .i64 (rd ((rd_T43 l0_3 0).f1) 0))) (ds := []) #[false, false, false, false, false, false, false, false, false, false, false, false, false, false, false, false, false, false, false, false, false, false, false, false, false] (by kernel_rfl) rfl rfl ⟨(blk_cell BK257.out 0).trans rfl, (blk_cell BK257.out 1).trans rfl, (blk_cell BK257.out 2).trans rfl, (blk_cell BK257.out 3).trans rfl, (blk_cell BK257.out 4).trans rfl, (blk_cell BK255.out 0).trans rfl, (blk_cell BK255.out 1).trans rfl, (blk_cell BK255.out 2).trans rfl, (blk_cell BK255.out 3).trans rfl, (blk_cell BK255.out 4).trans rfl, ((HB.out.cell (qB w _ hw258_0)).trans hw258_0), ((HB.out.cell (qB w _ hw259_0)).trans hw259_0)⟩ (fun hHeld => ?_); refine with_tabW arboristref15_start.tab2 arboristref15_start.bits2 (fun HT_ HW_ => ?_)
       (generalize w16.drew = w17 at BK255 BK257 HB hx258_0 hx259_0 hHeld ⊢); (refine pure_ (i := 0) (N := some 9) (v := ?_) (a' := ?_) #[true, false, false, false, false, false, false, false, false, false, false, false, false, false, false, false, false, false, false, false, false, false, false, false, false] rfl rfl (any_of HT_.out (by kernel_rfl)) (fun _ _ _ h => h) (Or.inl ⟨by rfl, ?_⟩) ?_ ?_); rotate_left; ((intro w'; go_simp; with_reducible rfl)); rotate_left; ((simp only [Act.put, List.setIfInBounds_toArray, List.set_cons_zero, List.set_cons_succ, i64_w, i32_w]; rfl)); (refine take_ (i := 1) (N := some 10) (v := ?_) (a' := ?_) #[true, true, false, false, false, false, false, false, false, false, false, false, false, false, false, false, false, false, false, false, false, false, false, false, false] rfl rfl (take_ofW HT_.out HW_.out (by kernel_rfl)) (fun _ _ _ h => h) (Or.inl ⟨by rfl, ?_⟩) hHeld ?_ ?_); rotate_left
       ·rintro w' ⟨s0, s1, s2, s3, s4, s5, s6, s7, s8, s9, s10, s11⟩
        (go_simp); (with_reducible rfl)
       rotate_left; ((simp only [Act.put, List.setIfInBounds_toArray, List.set_cons_zero, List.set_cons_succ, i64_w, i32_w]; rfl)); (refine pure_ (i := 2) (N := some 11) (v := ?_) (a' := ?_) #[true, true, true, false, false, false, false, false, false, false, false, false, false, false, false, false, false, false, false, false, false, false, false, false, false] rfl rfl (any_of HT_.out (by kernel_rfl)) (fun _ _ _ h => h) (Or.inl ⟨by rfl, ?_⟩) ?_ ?_); rotate_left; ((intro w'; go_simp; with_reducible rfl)); rotate_left; ((simp only [Act.put, List.setIfInBounds_toArray, List.set_cons_zero, List.set_cons_succ, i64_w, i32_w]; rfl)); (refine pure_ (i := 3) (N := some 12) (v := ?_) (a' := ?_) #[true, true, true, true, false, false, false, false, false, false, false, false, false, false, false, false, false, false, false, false, false, false, false, false, false] rfl rfl (any_of HT_.out (by kernel_rfl)) (fun _ _ _ h => h) (Or.inl ⟨by rfl, ?_⟩) ?_ ?_); rotate_left; ((intro w'; go_simp; with_reducible rfl)); rotate_left; ((simp only [Act.put, List.setIfInBounds_toArray, List.set_cons_zero, List.set_cons_succ, i64_w, i32_w]; rfl)); (refine pure_ (i := 4) (N := some 13) (v := ?_) (a' := ?_) #[true, true, true, true, true, false, false, false, false, false, false, false, false, false, false, false, false, false, false, false, false, false, false, false, false] rfl rfl (any_of HT_.out (by kernel_rfl)) (fun _ _ _ h => h) (Or.inl ⟨by rfl, ?_⟩) ?_ ?_); rotate_left; ((intro w'; go_simp; with_reducible rfl)); rotate_left; ((simp only [Act.put, List.setIfInBounds_toArray, List.set_cons_zero, List.set_cons_succ, i64_w, i32_w]; rfl)); (refine take_ (i := 5) (N := some 14) (v := ?_) (a' := ?_) #[true, true, true, true, true, true, false, false, false, false, false, false, false, false, false, false, false, false, false, false, false, false, false, false, false] rfl rfl (take_ofW HT_.out HW_.out (by kernel_rfl)) (fun _ _ _ h => h) (Or.inl ⟨by rfl, ?_⟩) hHeld ?_ ?_); rotate_left
       ·rintro w' ⟨s0, s1, s2, s3, s4, s5, s6, s7, s8, s9, s10, s11⟩
        (go_simp); (with_reducible rfl)
       rotate_left; ((simp only [Act.put, List.setIfInBounds_toArray, List.set_cons_zero, List.set_cons_succ, i64_w, i32_w]; rfl)); (refine pure_ (i := 6) (N := some 15) (v := ?_) (a' := ?_) #[true, true, true, true, true, true, true, false, false, false, false, false, false, false, false, false, false, false, false, false, false, false, false, false, false] rfl rfl (any_of HT_.out (by kernel_rfl)) (fun _ _ _ h => h) (Or.inl ⟨by rfl, ?_⟩) ?_ ?_); rotate_left; ((intro w'; go_simp; with_reducible rfl)); rotate_left; ((simp only [Act.put, List.setIfInBounds_toArray, List.set_cons_zero, List.set_cons_succ, i64_w, i32_w]; rfl)); (refine pure_ (i := 7) (N := some 16) (v := ?_) (a' := ?_) #[true, true, true, true, true, true, true, true, false, false, false, false, false, false, false, false, false, false, false, false, false, false, false, false, false] rfl rfl (any_of HT_.out (by kernel_rfl)) (fun _ _ _ h => h) (Or.inl ⟨by rfl, ?_⟩) ?_ ?_); rotate_left; ((intro w'; go_simp; with_reducible rfl)); rotate_left; ((simp only [Act.put, List.setIfInBounds_toArray, List.set_cons_zero, List.set_cons_succ, i64_w, i32_w]; rfl)); (refine pure_ (i := 8) (N := some 17) (v := ?_) (a' := ?_) #[true, true, true, true, true, true, true, true, true, false, false, false, false, false, false, false, false, false, false, false, false, false, false, false, false] rfl rfl (any_of HT_.out (by kernel_rfl)) (fun _ _ _ h => h) (Or.inl ⟨by rfl, ?_⟩) ?_ ?_); rotate_left; ((intro w'; go_simp; with_reducible rfl)); rotate_left; ((simp only [Act.put, List.setIfInBounds_toArray, List.set_cons_zero, List.set_cons_succ, i64_w, i32_w]; rfl)); (refine pure_ (i := 9) (N := some 18) (v := ?_) (a' := ?_) #[true, true, true, true, true, true, true, true, true, true, false, false, false, false, false, false, false, false, false, false, false, false, false, false, false] rfl rfl (any_of HT_.out (by kernel_rfl)) (fun _ _ _ h => h) (Or.inl ⟨by rfl, ?_⟩) ?_ ?_); rotate_left; ((intro w'; go_simp; with_reducible rfl)); rotate_left; ((simp only [Act.put, List.setIfInBounds_toArray, List.set_cons_zero, List.set_cons_succ, i64_w, i32_w]; rfl)); (refine pure_ (i := 10) (N := some 19) (v := ?_) (a' := ?_) #[true, true, true, true, true, true, true, true, true, true, true, false, false, false, false, false, false, false, false, false, false, false, false, false, false] rfl rfl (any_of HT_.out (by kernel_rfl)) (fun _ _ _ h => h) (Or.inl ⟨by rfl, ?_⟩) ?_ ?_); rotate_left; ((intro w'; go_simp; with_reducible rfl)); rotate_left; ((simp only [Act.put, List.setIfInBounds_toArray, List.set_cons_zero, List.set_cons_succ, i64_w, i32_w]; rfl))
       (refine take_ (i := 11) (N := some 20) (v := ?_) (a' := ?_) #[true, true, true, true, true, true, true, true, true, true, true, true, false, false, false, false, false, false, false, false, false, false, false, false, false] rfl rfl (take_ofW HT_.out HW_.out (by kernel_rfl)) (fun _ _ _ h => h) (Or.inl ⟨by rfl, ?_⟩) hHeld ?_ ?_); rotate_left
       ·rintro w' ⟨s0, s1, s2, s3, s4, s5, s6, s7, s8, s9, s10, s11⟩
        (go_simp); (with_reducible rfl)
       rotate_left; ((simp only [Act.put, List.setIfInBounds_toArray, List.set_cons_zero, List.set_cons_succ, i64_w, i32_w]; rfl)); (refine pure_ (i := 12) (N := some 21) (v := ?_) (a' := ?_) #[true, true, true, true, true, true, true, true, true, true, true, true, true, false, false, false, false, false, false, false, false, false, false, false, false] rfl rfl (any_of HT_.out (by kernel_rfl)) (fun _ _ _ h => h) (Or.inl ⟨by rfl, ?_⟩) ?_ ?_); rotate_left; ((intro w'; go_simp; with_reducible rfl)); rotate_left; ((simp only [Act.put, List.setIfInBounds_toArray, List.set_cons_zero, List.set_cons_succ, i64_w, i32_w]; rfl)); (refine take_ (i := 13) (N := some 22) (v := ?_) (a' := ?_) #[true, true, true, true, true, true, true, true, true, true, true, true, true, true, false, false, false, false, false, false, false, false, false, false, false] rfl rfl (take_ofW HT_.out HW_.out (by kernel_rfl)) (fun _ _ _ h => h) (Or.inl ⟨by rfl, ?_⟩) hHeld ?_ ?_); rotate_left
       ·rintro w' ⟨s0, s1, s2, s3, s4, s5, s6, s7, s8, s9, s10, s11⟩
        (go_simp); (with_reducible rfl)
       rotate_left; ((simp only [Act.put, List.setIfInBounds_toArray, List.set_cons_zero, List.set_cons_succ, i64_w, i32_w]; rfl)); (refine pure_ (i := 14) (N := some 23) (v := ?_) (a' := ?_) #[true, true, true, true, true, true, true, true, true, true, true, true, true, true, true, false, false, false, false, false, false, false, false, false, false] rfl rfl (any_of HT_.out (by kernel_rfl)) (fun _ _ _ h => h) (Or.inl ⟨by rfl, ?_⟩) ?_ ?_); rotate_left; ((intro w'; go_simp; with_reducible rfl)); rotate_left; ((simp only [Act.put, List.setIfInBounds_toArray, List.set_cons_zero, List.set_cons_succ, i64_w, i32_w]; rfl)); (refine pure_ (i := 15) (N := some 24) (v := ?_) (a' := ?_) #[true, true, true, true, true, true, true, true, true, true, true, true, true, true, true, true, false, false, false, false, false, false, false, false, false] rfl rfl (any_of HT_.out (by kernel_rfl)) (fun _ _ _ h => h) (Or.inl ⟨by rfl, ?_⟩) ?_ ?_); rotate_left; ((intro w'; go_simp; with_reducible rfl)); rotate_left; ((simp only [Act.put, List.setIfInBounds_toArray, List.set_cons_zero, List.set_cons_succ, i64_w, i32_w]; rfl)); (refine pure_ (i := 16) (N := some 25) (v := ?_) (a' := ?_) #[true, true, true, true, true, true, true, true, true, true, true, true, true, true, true, true, true, false, false, false, false, false, false, false, false] rfl rfl (any_of HT_.out (by kernel_rfl)) (fun _ _ _ h => h) (Or.inl ⟨by rfl, ?_⟩) ?_ ?_); rotate_left; ((intro w'; go_simp; with_reducible rfl)); rotate_left; ((simp only [Act.put, List.setIfInBounds_toArray, List.set_cons_zero, List.set_cons_succ, i64_w, i32_w]; rfl)); (refine pure_ (i := 18) (N := some 27) (v := ?_) (a' := ?_) #[true, true, true, true, true, true, true, true, true, true, true, true, true, true, true, true, true, false, true, false, false, false, false, false, false] rfl rfl (any_of HT_.out (by kernel_rfl)) (fun _ _ _ h => h) (Or.inl ⟨by rfl, ?_⟩) ?_ ?_); rotate_left; ((intro w'; go_simp; with_reducible rfl)); rotate_left; ((simp only [Act.put, List.setIfInBounds_toArray, List.set_cons_zero, List.set_cons_succ, i64_w, i32_w]; rfl)); (refine take_ (i := 17) (N := some 26) (v := ?_) (a' := ?_) #[true, true, true, true, true, true, true, true, true, true, true, true, true, true, true, true, true, true, true, false, false, false, false, false, false] rfl rfl (take_ofW HT_.out HW_.out (by kernel_rfl)) (fun _ _ _ h => h) (Or.inl ⟨by rfl, ?_⟩) hHeld ?_ ?_); rotate_left
       ·rintro w' ⟨s0, s1, s2, s3, s4, s5, s6, s7, s8, s9, s10, s11⟩
        (go_simp); (with_reducible rfl)
       rotate_left; ((simp only [Act.put, List.setIfInBounds_toArray, List.set_cons_zero, List.set_cons_succ, i64_w, i32_w]; rfl)); (refine take_ (i := 19) (N := some 28) (v := ?_) (a' := ?_) #[true, true, true, true, true, true, true, true, true, true, true, true, true, true, true, true, true, true, true, true, false, false, false, false, false] rfl rfl (take_ofW HT_.out HW_.out (by kernel_rfl)) (fun _ _ _ h => h) (Or.inl ⟨by rfl, ?_⟩) hHeld ?_ ?_); rotate_left
       ·rintro w' ⟨s0, s1, s2, s3, s4, s5, s6, s7, s8, s9, s10, s11⟩
        (go_simp); (with_reducible rfl)
       rotate_left; ((simp only [Act.put, List.setIfInBounds_toArray, List.set_cons_zero, List.set_cons_succ, i64_w, i32_w]; rfl)); (refine pure_ (i := 20) (N := some 29) (v := ?_) (a' := ?_) #[true, true, true, true, true, true, true, true, true, true, true, true, true, true, true, true, true, true, true, true, true, false, false, false, false] rfl rfl (any_of HT_.out (by kernel_rfl)) (fun _ _ _ h => h) (Or.inl ⟨by rfl, ?_⟩) ?_ ?_); rotate_left; ((intro w'; go_simp; with_reducible rfl)); rotate_left; ((simp only [Act.put, List.setIfInBounds_toArray, List.set_cons_zero, List.set_cons_succ, i64_w, i32_w]; rfl)); (refine take_ (i := 21) (N := some 30) (v := ?_) (a' := ?_) #[true, true, true, true, true, true, true, true, true, true, true, true, true, true, true, true, true, true, true, true, true, true, false, false, false] rfl rfl (take_ofW HT_.out HW_.out (by kernel_rfl)) (fun _ _ _ h => h) (Or.inl ⟨by rfl, ?_⟩) hHeld ?_ ?_); rotate_left
       ·rintro w' ⟨s0, s1, s2, s3, s4, s5, s6, s7, s8, s9, s10, s11⟩
        (go_simp); (with_reducible rfl)
       rotate_left; ((simp only [Act.put, List.setIfInBounds_toArray, List.set_cons_zero, List.set_cons_succ, i64_w, i32_w]; rfl)); (refine one_ (i := 22) (N := some 31) #[true, true, true, true, true, true, true, true, true, true, true, true, true, true, true, true, true, true, true, true, true, true, true, false, false] rfl rfl (one_of HT_.out (by kernel_rfl)) (by decide) (fun K hK => ?_)); (refine goes_ Tryd.func36 (by kernel_rfl) rfl #[.agg #[.slice A0_0 l0_0.length c0_0, .slice A0_1 l0_1.length c0_1, .slice A0_2 l0_2.length c0_2, .slice (some ad256) l0_3.length c0_3, .slice A0_4 l0_4.length c0_4], .int .i64 (rd ((rd_T43 l0_3 0).f1) 0)] (by rfl) rfl rfl (by (try simp only [List.map_toArray, List.map_cons, List.map_nil]); first | done | rfl | (simp only [List.length_drop, List.length_take]; rfl)) ?_); (with_reducible refine (arboristref15_Is.calls _ _ l0_0 _ _ l0_1 _ _ l0_2 _ _ l0_3 _ _ l0_4 (rd ((rd_T43 l0_3 0).f1) 0) t260 _ ?side1 ?side2 ?side3 ?side4 ?side5 ?side6 ?side7 ?side8 ?side9 ?side10 A15.out).mono ?_); ((case side1 => repeat (first | exact (Kd.C_below HR0_0.out HB.out) | (with_reducible refine Kd.C_alloc ?_ _) | (with_reducible refine Kd.C_drewN ?_ _) | (with_reducible refine Kd.C_drew ?_)))); ((case side2 => exact HC0_0.out)); ((case side3 => repeat (first | exact (Kd.C_below HR0_1.out HB.out) | (with_reducible refine Kd.C_alloc ?_ _) | (with_reducible refine Kd.C_drewN ?_ _) | (with_reducible refine Kd.C_drew ?_)))); ((case side4 => exact HC0_1.out)); ((case side5 => repeat (first | exact (Kd.C_below HR0_2.out HB.out) | (with_reducible refine Kd.C_alloc ?_ _) | (with_reducible refine Kd.C_drewN ?_ _) | (with_reducible refine Kd.C_drew ?_)))); ((case side6 => exact HC0_2.out)); ((case side7 => repeat (first | exact (Kd.C_below HR0_3.out HB.out) | (with_reducible refine Kd.C_alloc ?_ _) | (with_reducible refine Kd.C_drewN ?_ _) | (with_reducible refine Kd.C_drew ?_)))); ((case side8 => exact HC0_3.out)); ((case side9 => repeat (first | exact (Kd.C_below HR0_4.out HB.out) | (with_reducible refine Kd.C_alloc ?_ _) | (with_reducible refine Kd.C_drewN ?_ _) | (with_reducible refine Kd.C_drew ?_)))); ((case side10 => exact HC0_4.out)); (rintro e w18 ⟨rfl, hb⟩); (refine ⟨_, rfl, ?_⟩); (have n0_ := qM (qb (g := gb255) (o := .cells #[.slice A0_0 l0_0.length c0_0, .slice A0_1 l0_1.length c0_1, .slice A0_2 l0_2.length c0_2, .slice (some ad256) l0_3.length c0_3, .slice A0_4 l0_4.length c0_4] 27 (0, 0)) (by (with_reducible repeat (first | refine qn ?_ _ | refine qd ?_ | refine qa ?_ _)); exact BK255.out) hb))
       (have n1_ := qM (qb (g := gb257) (o := .cells #[.int .i64 ((rd_T43 l0_3 0).f0), .slice (some ad258) ((rd_T43 l0_3 0).f1).length c256_1, .slice A256_2 ((rd_T43 l0_3 0).f2).length c256_2, .string ((rd_T43 l0_3 0).f3), .int .i64 ((rd_T43 l0_3 0).f4)] 43 (0, 0)) (by (with_reducible repeat (first | refine qn ?_ _ | refine qd ?_ | refine qa ?_ _)); exact BK257.out) hb)); (have n2_ := qM (qP (by repeat (first | (with_reducible first | exact HB.out | apply qA | apply qN | apply qD | refine qS ?_ GE255.out | refine qS ?_ GE257.out) | exact HB.out)) hb)); clear BK255 BK257 HB; (have BK255 := n0_); (have BK257 := n1_); (have HB := n2_); clear n0_ n1_ n2_; ((try clear hb)); ((try clear hb2)); ((try clear hk)); ((try clear hi)); (refine hK.out _ _ ⟨(blk_cell BK257.out 0).trans rfl, (blk_cell BK257.out 1).trans rfl, (blk_cell BK257.out 2).trans rfl, (blk_cell BK257.out 3).trans rfl, (blk_cell BK257.out 4).trans rfl, (blk_cell BK255.out 0).trans rfl, (blk_cell BK255.out 1).trans rfl, (blk_cell BK255.out 2).trans rfl, (blk_cell BK255.out 3).trans rfl, (blk_cell BK255.out 4).trans rfl, ((HB.out.cell (qB w _ hw258_0)).trans hw258_0), ((HB.out.cell (qB w _ hw259_0)).trans hw259_0)⟩ (fun hHeld => ?_)); clear hK K; (refine norm_ (a' := ?_) ?_ ?_); rotate_left; ((show Act.put _ (some 31) _ = _; simp only [Act.put, List.setIfInBounds_toArray, List.set_cons_zero, List.set_cons_succ, i64_w, i32_w]; rfl)); (refine pure_ (i := 23) (N := some 32) (v := ?_) (a' := ?_) #[true, true, true, true, true, true, true, true, true, true, true, true, true, true, true, true, true, true, true, true, true, true, true, true, false] rfl rfl (any_of HT_.out (by kernel_rfl)) (fun _ _ _ h => h) (Or.inl ⟨by rfl, ?_⟩) ?_ ?_); rotate_left; ((intro w'; go_simp; with_reducible rfl)); rotate_left; ((simp only [Act.put, List.setIfInBounds_toArray, List.set_cons_zero, List.set_cons_succ, i64_w, i32_w]; rfl)); (refine pure_ (i := 24) (N := some 33) (v := ?_) (a' := ?_) #[true, true, true, true, true, true, true, true, true, true, true, true, true, true, true, true, true, true, true, true, true, true, true, true, true] rfl rfl (any_of HT_.out (by kernel_rfl)) (fun _ _ _ h => h) (Or.inl ⟨by rfl, ?_⟩) ?_ ?_); rotate_left; ((intro w'; go_simp; with_reducible rfl)); rotate_left; ((simp only [Act.put, List.setIfInBounds_toArray, List.set_cons_zero, List.set_cons_succ, i64_w, i32_w]; rfl)); (refine done_ (done_of HT_.out (by kernel_rfl)) ?_)
       (try go_wp2); go_meet
       case rel => exact ⟨_, (!t260), (by first | rfl | (simp; done) | (simp [*]; done)), H', ⟨by first | omega | exact Nat.le_refl _⟩, ⟨by (with_reducible repeat (first | refine qn ?_ _ | refine qd ?_ | refine qa ?_ _)); exact BK255.out⟩, ⟨by (with_reducible repeat (first | refine qn ?_ _ | refine qd ?_ | refine qa ?_ _)); exact BK257.out⟩, ⟨by repeat (first | (with_reducible first | exact HB.out | apply qA | apply qN | apply qD | refine qS ?_ GE255.out | refine qS ?_ GE257.out) | exact HB.out)⟩⟩
     ·rw [if_neg c11] at H
      exact absurd H (by simp)
    ·rw [if_neg c10] at H
     (have c10b0 : ((((rd_T43 l0_3 0).f1).length : Int) == 1) = false := beq_eq_false_iff_ne.mpr c10); (have c10b1 : ((((rd_T43 l0_3 0).f1).length : Int) != 1) = true := bne_iff_ne.mpr c10); (have H' := qM H); clear H; (try go_wp2)
     have n0_ : Aside0 ((((((w6.setCell ⟨gb257, 0, none⟩ (.int .i64 ((rd_T43 l0_3 0).f0))).setCell ⟨gb257, 1, none⟩ (.slice A256_1 ((rd_T43 l0_3 0).f1).length c256_1)).setCell ⟨gb257, 2, none⟩ (.slice A256_2 ((rd_T43 l0_3 0).f2).length c256_2)).setCell ⟨gb257, 3, none⟩ (.string ((rd_T43 l0_3 0).f3))).setCell ⟨gb257, 4, none⟩ (.int .i64 ((rd_T43 l0_3 0).f4))).heap[gb255]? = some (.cells #[.slice A0_0 l0_0.length c0_0, .slice A0_1 l0_1.length c0_1, .slice A0_2 l0_2.length c0_2, .slice (some ad256) l0_3.length c0_3, .slice A0_4 l0_4.length c0_4] 27 (0, 0))) := ⟨by (with_reducible repeat (first | refine qn ?_ _ | refine qd ?_ | refine qa ?_ _)); refine qf ?_ NB255_257.out _; (with_reducible repeat (first | refine qn ?_ _ | refine qd ?_ | refine qa ?_ _)); refine qf ?_ NB255_257.out _; (with_reducible repeat (first | refine qn ?_ _ | refine qd ?_ | refine qa ?_ _)); refine qf ?_ NB255_257.out _; (with_reducible repeat (first | refine qn ?_ _ | refine qd ?_ | refine qa ?_ _)); refine qf ?_ NB255_257.out _; (with_reducible repeat (first | refine qn ?_ _ | refine qd ?_ | refine qa ?_ _)); refine qf ?_ NB255_257.out _; (with_reducible repeat (first | refine qn ?_ _ | refine qd ?_ | refine qa ?_ _)); exact BK255.out⟩
     have n1_ : Aside0 ((((((w6.setCell ⟨gb257, 0, none⟩ (.int .i64 ((rd_T43 l0_3 0).f0))).setCell ⟨gb257, 1, none⟩ (.slice A256_1 ((rd_T43 l0_3 0).f1).length c256_1)).setCell ⟨gb257, 2, none⟩ (.slice A256_2 ((rd_T43 l0_3 0).f2).length c256_2)).setCell ⟨gb257, 3, none⟩ (.string ((rd_T43 l0_3 0).f3))).setCell ⟨gb257, 4, none⟩ (.int .i64 ((rd_T43 l0_3 0).f4))).heap[gb257]? = some (.cells #[.int .i64 ((rd_T43 l0_3 0).f0), .slice A256_1 ((rd_T43 l0_3 0).f1).length c256_1, .slice A256_2 ((rd_T43 l0_3 0).f2).length c256_2, .string ((rd_T43 l0_3 0).f3), .int .i64 ((rd_T43 l0_3 0).f4)] 43 (0, 0))) := ⟨by (with_reducible repeat (first | refine qn ?_ _ | refine qd ?_ | refine qa ?_ _)); refine blk_put (cs := #[.int .i64 ((rd_T43 l0_3 0).f0), .slice A256_1 ((rd_T43 l0_3 0).f1).length c256_1, .slice A256_2 ((rd_T43 l0_3 0).f2).length c256_2, .string ((rd_T43 l0_3 0).f3), .int .i64 0]) ?_ 4 _ rfl; (with_reducible repeat (first | refine qn ?_ _ | refine qd ?_ | refine qa ?_ _)); refine blk_put (cs := #[.int .i64 ((rd_T43 l0_3 0).f0), .slice A256_1 ((rd_T43 l0_3 0).f1).length c256_1, .slice A256_2 ((rd_T43 l0_3 0).f2).length c256_2, .string (⟨#[]⟩ : ByteArray), .int .i64 0]) ?_ 3 _ rfl; (with_reducible repeat (first | refine qn ?_ _ | refine qd ?_ | refine qa ?_ _)); refine blk_put (cs := #[.int .i64 ((rd_T43 l0_3 0).f0), .slice A256_1 ((rd_T43 l0_3 0).f1).length c256_1, .slice none 0 0, .string (⟨#[]⟩ : ByteArray), .int .i64 0]) ?_ 2 _ rfl; (with_reducible repeat (first | refine qn ?_ _ | refine qd ?_ | refine qa ?_ _)); refine blk_put (cs := #[.int .i64 ((rd_T43 l0_3 0).f0), .slice none 0 0, .slice none 0 0, .string (⟨#[]⟩ : ByteArray), .int .i64 0]) ?_ 1 _ rfl; (with_reducible repeat (first | refine qn ?_ _ | refine qd ?_ | refine qa ?_ _)); refine blk_put (cs := #[.int .i64 0, .slice none 0 0, .slice none 0 0, .string (⟨#[]⟩ : ByteArray), .int .i64 0]) ?_ 0 _ rfl; (with_reducible repeat (first | refine qn ?_ _ | refine qd ?_ | refine qa ?_ _)); exact BK257.out⟩
     (have n2_ : Aside0 (Below w.heap.size w (((((w6.setCell ⟨gb257, 0, none⟩ (.int .i64 ((rd_T43 l0_3 0).f0))).setCell ⟨gb257, 1, none⟩ (.slice A256_1 ((rd_T43 l0_3 0).f1).length c256_1)).setCell ⟨gb257, 2, none⟩ (.slice A256_2 ((rd_T43 l0_3 0).f2).length c256_2)).setCell ⟨gb257, 3, none⟩ (.string ((rd_T43 l0_3 0).f3))).setCell ⟨gb257, 4, none⟩ (.int .i64 ((rd_T43 l0_3 0).f4)))) := ⟨by repeat (first | (with_reducible first | exact HB.out | apply qA | apply qN | apply qD | refine qS ?_ GE255.out | refine qS ?_ GE257.out) | exact HB.out)⟩); ((try clear BK255)); ((try clear BK257)); ((try clear HB)); (generalize (((((w6.setCell ⟨gb257, 0, none⟩ (.int .i64 ((rd_T43 l0_3 0).f0))).setCell ⟨gb257, 1, none⟩ (.slice A256_1 ((rd_T43 l0_3 0).f1).length c256_1)).setCell ⟨gb257, 2, none⟩ (.slice A256_2 ((rd_T43 l0_3 0).f2).length c256_2)).setCell ⟨gb257, 3, none⟩ (.string ((rd_T43 l0_3 0).f3))).setCell ⟨gb257, 4, none⟩ (.int .i64 ((rd_T43 l0_3 0).f4))) = w19 at n0_ n1_ n2_ ⊢); (have BK255 := n0_); (have BK257 := n1_); (have HB := n2_); clear n0_ n1_ n2_; (have n0_ := qM (qd BK255.out)); (have n1_ := qM (qd BK257.out)); (have n2_ := qM (qD HB.out)); clear BK255 BK257 HB; (have BK255 := n0_); (have BK257 := n1_); (have HB := n2_); clear n0_ n1_ n2_
     refine start_ (n := 25) (S := fun w' => w'.cell? ⟨gb257, 0, none⟩ = some (.int .i64 ((rd_T43 l0_3 0).f0)) ∧ w'.cell? ⟨gb257, 1, none⟩ = some (.slice A256_1 ((rd_T43 l0_3 0).f1).length c256_1) ∧ w'.cell? ⟨gb257, 2, none⟩ = some (.slice A256_2 ((rd_T43 l0_3 0).f2).length c256_2) ∧ w'.cell? ⟨gb257, 3, none⟩ = some (.string ((rd_T43 l0_3 0).f3)) ∧ w'.cell? ⟨gb257, 4, none⟩ = some (.int .i64 ((rd_T43 l0_3 0).f4))) (ds := []) #[false, false, false, false, false, false, false, false, false, false, false, false, false, false, false, false, false, false, false, false, false, false, false, false, false] (by kernel_rfl) rfl rfl ⟨(blk_cell BK257.out 0).trans rfl, (blk_cell BK257.out 1).trans rfl, (blk_cell BK257.out 2).trans rfl, (blk_cell BK257.out 3).trans rfl, (blk_cell BK257.out 4).trans rfl⟩ (fun hHeld => ?_); refine with_tabW arboristref15_start.tab2 arboristref15_start.bits2 (fun HT_ HW_ => ?_)
     (generalize w19.drew = w20 at BK255 BK257 HB hHeld ⊢); (refine pure_ (i := 0) (N := some 9) (v := ?_) (a' := ?_) #[true, false, false, false, false, false, false, false, false, false, false, false, false, false, false, false, false, false, false, false, false, false, false, false, false] rfl rfl (any_of HT_.out (by kernel_rfl)) (fun _ _ _ h => h) (Or.inl ⟨by rfl, ?_⟩) ?_ ?_); rotate_left; ((intro w'; go_simp; with_reducible rfl)); rotate_left; ((simp only [Act.put, List.setIfInBounds_toArray, List.set_cons_zero, List.set_cons_succ, i64_w, i32_w]; rfl)); (refine take_ (i := 1) (N := some 10) (v := ?_) (a' := ?_) #[true, true, false, false, false, false, false, false, false, false, false, false, false, false, false, false, false, false, false, false, false, false, false, false, false] rfl rfl (take_ofW HT_.out HW_.out (by kernel_rfl)) (fun _ _ _ h => h) (Or.inl ⟨by rfl, ?_⟩) hHeld ?_ ?_); rotate_left
     ·rintro w' ⟨s0, s1, s2, s3, s4⟩
      (go_simp); (with_reducible rfl)
     rotate_left; ((simp only [Act.put, List.setIfInBounds_toArray, List.set_cons_zero, List.set_cons_succ, i64_w, i32_w]; rfl)); (refine pure_ (i := 2) (N := some 11) (v := ?_) (a' := ?_) #[true, true, true, false, false, false, false, false, false, false, false, false, false, false, false, false, false, false, false, false, false, false, false, false, false] rfl rfl (any_of HT_.out (by kernel_rfl)) (fun _ _ _ h => h) (Or.inl ⟨by rfl, ?_⟩) ?_ ?_); rotate_left; ((intro w'; go_simp; with_reducible rfl)); rotate_left; ((simp only [Act.put, List.setIfInBounds_toArray, List.set_cons_zero, List.set_cons_succ, i64_w, i32_w]; rfl)); (refine pure_ (i := 3) (N := some 12) (v := ?_) (a' := ?_) #[true, true, true, true, false, false, false, false, false, false, false, false, false, false, false, false, false, false, false, false, false, false, false, false, false] rfl rfl (any_of HT_.out (by kernel_rfl)) (fun _ _ _ h => h) (Or.inl ⟨by rfl, ?_⟩) ?_ ?_); rotate_left; ((intro w'; go_simp; with_reducible rfl)); rotate_left; ((simp only [Act.put, List.setIfInBounds_toArray, List.set_cons_zero, List.set_cons_succ, i64_w, i32_w]; rfl)); (refine pure_ (i := 4) (N := some 13) (v := ?_) (a' := ?_) #[true, true, true, true, true, false, false, false, false, false, false, false, false, false, false, false, false, false, false, false, false, false, false, false, false] rfl rfl (any_of HT_.out (by kernel_rfl)) (fun _ _ _ h => h) (Or.inl ⟨by rfl, ?_⟩) ?_ ?_); rotate_left; ((intro w'; go_simp; with_reducible rfl)); rotate_left; ((simp only [Act.put, List.setIfInBounds_toArray, List.set_cons_zero, List.set_cons_succ, i64_w, i32_w]; rfl)); (refine take_ (i := 5) (N := some 14) (v := ?_) (a' := ?_) #[true, true, true, true, true, true, false, false, false, false, false, false, false, false, false, false, false, false, false, false, false, false, false, false, false] rfl rfl (take_ofW HT_.out HW_.out (by kernel_rfl)) (fun _ _ _ h => h) (Or.inl ⟨by rfl, ?_⟩) hHeld ?_ ?_); rotate_left
     ·rintro w' ⟨s0, s1, s2, s3, s4⟩
      (go_simp); (with_reducible rfl)
     rotate_left; ((simp only [Act.put, List.setIfInBounds_toArray, List.set_cons_zero, List.set_cons_succ, i64_w, i32_w]; rfl)); (refine pure_ (i := 6) (N := some 15) (v := ?_) (a' := ?_) #[true, true, true, true, true, true, true, false, false, false, false, false, false, false, false, false, false, false, false, false, false, false, false, false, false] rfl rfl (any_of HT_.out (by kernel_rfl)) (fun _ _ _ h => h) (Or.inl ⟨by rfl, ?_⟩) ?_ ?_); rotate_left; ((intro w'; go_simp; with_reducible rfl)); rotate_left; ((simp only [Act.put, List.setIfInBounds_toArray, List.set_cons_zero, List.set_cons_succ, i64_w, i32_w]; rfl)); (refine pure_ (i := 7) (N := some 16) (v := ?_) (a' := ?_) #[true, true, true, true, true, true, true, true, false, false, false, false, false, false, false, false, false, false, false, false, false, false, false, false, false] rfl rfl (any_of HT_.out (by kernel_rfl)) (fun _ _ _ h => h) (Or.inl ⟨by rfl, ?_⟩) ?_ ?_); rotate_left; ((intro w'; go_simp; with_reducible rfl)); rotate_left; ((simp only [Act.put, List.setIfInBounds_toArray, List.set_cons_zero, List.set_cons_succ, i64_w, i32_w]; rfl)); (refine pure_ (i := 8) (N := some 17) (v := ?_) (a' := ?_) #[true, true, true, true, true, true, true, true, true, false, false, false, false, false, false, false, false, false, false, false, false, false, false, false, false] rfl rfl (any_of HT_.out (by kernel_rfl)) (fun _ _ _ h => h) (Or.inl ⟨by rfl, ?_⟩) ?_ ?_); rotate_left; ((intro w'; go_simp; with_reducible rfl)); rotate_left; ((simp only [Act.put, List.setIfInBounds_toArray, List.set_cons_zero, List.set_cons_succ, i64_w, i32_w]; rfl)); (refine pure_ (i := 9) (N := some 18) (v := ?_) (a' := ?_) #[true, true, true, true, true, true, true, true, true, true, false, false, false, false, false, false, false, false, false, false, false, false, false, false, false] rfl rfl (any_of HT_.out (by kernel_rfl)) (fun _ _ _ h => h) (Or.inl ⟨by rfl, ?_⟩) ?_ ?_); rotate_left; ((intro w'; go_simp; with_reducible rfl)); rotate_left; ((simp only [Act.put, List.setIfInBounds_toArray, List.set_cons_zero, List.set_cons_succ, i64_w, i32_w]; rfl)); (refine pure_ (i := 10) (N := some 19) (v := undef) (a' := ?_) #[true, true, true, true, true, true, true, true, true, true, true, false, false, false, false, false, false, false, false, false, false, false, false, false, false] rfl rfl (any_of HT_.out (by kernel_rfl)) (fun _ _ _ h => h) (Or.inr ⟨by rfl, rfl⟩) ?_ ?_); rotate_left; ((simp only [Act.put, List.setIfInBounds_toArray, List.set_cons_zero, List.set_cons_succ, i64_w, i32_w]; rfl))
     (refine pure_ (i := 11) (N := some 20) (v := undef) (a' := ?_) #[true, true, true, true, true, true, true, true, true, true, true, true, false, false, false, false, false, false, false, false, false, false, false, false, false] rfl rfl (any_of HT_.out (by kernel_rfl)) (fun _ _ _ h => h) (Or.inr ⟨by rfl, rfl⟩) ?_ ?_); rotate_left; ((simp only [Act.put, List.setIfInBounds_toArray, List.set_cons_zero, List.set_cons_succ, i64_w, i32_w]; rfl)); (refine pure_ (i := 12) (N := some 21) (v := undef) (a' := ?_) #[true, true, true, true, true, true, true, true, true, true, true, true, true, false, false, false, false, false, false, false, false, false, false, false, false] rfl rfl (any_of HT_.out (by kernel_rfl)) (fun _ _ _ h => h) (Or.inr ⟨by rfl, rfl⟩) ?_ ?_); rotate_left; ((simp only [Act.put, List.setIfInBounds_toArray, List.set_cons_zero, List.set_cons_succ, i64_w, i32_w]; rfl)); (refine pure_ (i := 13) (N := some 22) (v := undef) (a' := ?_) #[true, true, true, true, true, true, true, true, true, true, true, true, true, true, false, false, false, false, false, false, false, false, false, false, false] rfl rfl (any_of HT_.out (by kernel_rfl)) (fun _ _ _ h => h) (Or.inr ⟨by rfl, rfl⟩) ?_ ?_); rotate_left; ((simp only [Act.put, List.setIfInBounds_toArray, List.set_cons_zero, List.set_cons_succ, i64_w, i32_w]; rfl)); (refine pure_ (i := 14) (N := some 23) (v := undef) (a' := ?_) #[true, true, true, true, true, true, true, true, true, true, true, true, true, true, true, false, false, false, false, false, false, false, false, false, false] rfl rfl (any_of HT_.out (by kernel_rfl)) (fun _ _ _ h => h) (Or.inr ⟨by rfl, rfl⟩) ?_ ?_); rotate_left; ((simp only [Act.put, List.setIfInBounds_toArray, List.set_cons_zero, List.set_cons_succ, i64_w, i32_w]; rfl)); (refine pure_ (i := 15) (N := some 24) (v := ?_) (a' := ?_) #[true, true, true, true, true, true, true, true, true, true, true, true, true, true, true, true, false, false, false, false, false, false, false, false, false] rfl rfl (any_of HT_.out (by kernel_rfl)) (fun _ _ _ h => h) (Or.inl ⟨by rfl, ?_⟩) ?_ ?_); rotate_left; ((intro w'; go_simp; with_reducible rfl)); rotate_left; ((simp only [Act.put, List.setIfInBounds_toArray, List.set_cons_zero, List.set_cons_succ, i64_w, i32_w]; rfl)); (refine pure_ (i := 16) (N := some 25) (v := ?_) (a' := ?_) #[true, true, true, true, true, true, true, true, true, true, true, true, true, true, true, true, true, false, false, false, false, false, false, false, false] rfl rfl (any_of HT_.out (by kernel_rfl)) (fun _ _ _ h => h) (Or.inl ⟨by rfl, ?_⟩) ?_ ?_)
     rotate_left; ((intro w'; go_simp; with_reducible rfl)); rotate_left; ((simp only [Act.put, List.setIfInBounds_toArray, List.set_cons_zero, List.set_cons_succ, i64_w, i32_w]; rfl)); (refine pure_ (i := 17) (N := some 26) (v := undef) (a' := ?_) #[true, true, true, true, true, true, true, true, true, true, true, true, true, true, true, true, true, true, false, false, false, false, false, false, false] rfl rfl (any_of HT_.out (by kernel_rfl)) (fun _ _ _ h => h) (Or.inr ⟨by rfl, rfl⟩) ?_ ?_); rotate_left; ((simp only [Act.put, List.setIfInBounds_toArray, List.set_cons_zero, List.set_cons_succ, i64_w, i32_w]; rfl)); (refine pure_ (i := 18) (N := some 27) (v := undef) (a' := ?_) #[true, true, true, true, true, true, true, true, true, true, true, true, true, true, true, true, true, true, true, false, false, false, false, false, false] rfl rfl (any_of HT_.out (by kernel_rfl)) (fun _ _ _ h => h) (Or.inr ⟨by rfl, rfl⟩) ?_ ?_); rotate_left; ((simp only [Act.put, List.setIfInBounds_toArray, List.set_cons_zero, List.set_cons_succ, i64_w, i32_w]; rfl)); (refine pure_ (i := 19) (N := some 28) (v := undef) (a' := ?_) #[true, true, true, true, true, true, true, true, true, true, true, true, true, true, true, true, true, true, true, true, false, false, false, false, false] rfl rfl (any_of HT_.out (by kernel_rfl)) (fun _ _ _ h => h) (Or.inr ⟨by rfl, rfl⟩) ?_ ?_); rotate_left; ((simp only [Act.put, List.setIfInBounds_toArray, List.set_cons_zero, List.set_cons_succ, i64_w, i32_w]; rfl)); (refine pure_ (i := 20) (N := some 29) (v := undef) (a' := ?_) #[true, true, true, true, true, true, true, true, true, true, true, true, true, true, true, true, true, true, true, true, true, false, false, false, false] rfl rfl (any_of HT_.out (by kernel_rfl)) (fun _ _ _ h => h) (Or.inr ⟨by rfl, rfl⟩) ?_ ?_); rotate_left; ((simp only [Act.put, List.setIfInBounds_toArray, List.set_cons_zero, List.set_cons_succ, i64_w, i32_w]; rfl)); (refine pure_ (i := 21) (N := some 30) (v := undef) (a' := ?_) #[true, true, true, true, true, true, true, true, true, true, true, true, true, true, true, true, true, true, true, true, true, true, false, false, false] rfl rfl (any_of HT_.out (by kernel_rfl)) (fun _ _ _ h => h) (Or.inr ⟨by rfl, rfl⟩) ?_ ?_); rotate_left; ((simp only [Act.put, List.setIfInBounds_toArray, List.set_cons_zero, List.set_cons_succ, i64_w, i32_w]; rfl)); (refine pure_ (i := 22) (N := some 31) (v := undef) (a' := ?_) #[true, true, true, true, true, true, true, true, true, true, true, true, true, true, true, true, true, true, true, true, true, true, true, false, false] rfl rfl (any_of HT_.out (by kernel_rfl)) (fun _ _ _ h => h) (Or.inr ⟨by rfl, rfl⟩) ?_ ?_)
     rotate_left; ((simp only [Act.put, List.setIfInBounds_toArray, List.set_cons_zero, List.set_cons_succ, i64_w, i32_w]; rfl)); (refine pure_ (i := 23) (N := some 32) (v := undef) (a' := ?_) #[true, true, true, true, true, true, true, true, true, true, true, true, true, true, true, true, true, true, true, true, true, true, true, true, false] rfl rfl (any_of HT_.out (by kernel_rfl)) (fun _ _ _ h => h) (Or.inr ⟨by rfl, rfl⟩) ?_ ?_); rotate_left; ((simp only [Act.put, List.setIfInBounds_toArray, List.set_cons_zero, List.set_cons_succ, i64_w, i32_w]; rfl)); (refine pure_ (i := 24) (N := some 33) (v := ?_) (a' := ?_) #[true, true, true, true, true, true, true, true, true, true, true, true, true, true, true, true, true, true, true, true, true, true, true, true, true] rfl rfl (any_of HT_.out (by kernel_rfl)) (fun _ _ _ h => h) (Or.inl ⟨by rfl, ?_⟩) ?_ ?_); rotate_left; ((intro w'; go_simp; with_reducible rfl)); rotate_left; ((simp only [Act.put, List.setIfInBounds_toArray, List.set_cons_zero, List.set_cons_succ, i64_w, i32_w]; rfl)); (refine done_ (done_of HT_.out (by kernel_rfl)) ?_); (try go_wp2); go_meet
     case rel => exact ⟨_, (true), (by first | rfl | (simp; done) | (simp [*]; done)), H', ⟨by first | omega | exact Nat.le_refl _⟩, ⟨by (with_reducible repeat (first | refine qn ?_ _ | refine qd ?_ | refine qa ?_ _)); exact BK255.out⟩, ⟨by (with_reducible repeat (first | refine qn ?_ _ | refine qd ?_ | refine qa ?_ _)); exact BK257.out⟩, ⟨by repeat (first | (with_reducible first | exact HB.out | apply qA | apply qN | apply qD | refine qS ?_ GE255.out | refine qS ?_ GE257.out) | exact HB.out)⟩⟩
   ·rw [if_neg c9] at H
    (have c9b0 : (((rd_T43 l0_3 0).f0) == 0) = false := beq_eq_false_iff_ne.mpr c9); (have c9b1 : (((rd_T43 l0_3 0).f0) != 0) = true := bne_iff_ne.mpr c9); ((first | rw [c9b0] | (simp only [i64_w, i32_w]; rw [c9b0]) | skip)); (have H' := qM H); clear H; (try go_wp2)
    have n0_ : Aside0 ((((((w6.setCell ⟨gb257, 0, none⟩ (.int .i64 ((rd_T43 l0_3 0).f0))).setCell ⟨gb257, 1, none⟩ (.slice A256_1 ((rd_T43 l0_3 0).f1).length c256_1)).setCell ⟨gb257, 2, none⟩ (.slice A256_2 ((rd_T43 l0_3 0).f2).length c256_2)).setCell ⟨gb257, 3, none⟩ (.string ((rd_T43 l0_3 0).f3))).setCell ⟨gb257, 4, none⟩ (.int .i64 ((rd_T43 l0_3 0).f4))).heap[gb255]? = some (.cells #[.slice A0_0 l0_0.length c0_0, .slice A0_1 l0_1.length c0_1, .slice A0_2 l0_2.length c0_2, .slice (some ad256) l0_3.length c0_3, .slice A0_4 l0_4.length c0_4] 27 (0, 0))) := ⟨by (with_reducible repeat (first | refine qn ?_ _ | refine qd ?_ | refine qa ?_ _)); refine qf ?_ NB255_257.out _; (with_reducible repeat (first | refine qn ?_ _ | refine qd ?_ | refine qa ?_ _)); refine qf ?_ NB255_257.out _; (with_reducible repeat (first | refine qn ?_ _ | refine qd ?_ | refine qa ?_ _)); refine qf ?_ NB255_257.out _; (with_reducible repeat (first | refine qn ?_ _ | refine qd ?_ | refine qa ?_ _)); refine qf ?_ NB255_257.out _; (with_reducible repeat (first | refine qn ?_ _ | refine qd ?_ | refine qa ?_ _)); refine qf ?_ NB255_257.out _; (with_reducible repeat (first | refine qn ?_ _ | refine qd ?_ | refine qa ?_ _)); exact BK255.out⟩
    have n1_ : Aside0 ((((((w6.setCell ⟨gb257, 0, none⟩ (.int .i64 ((rd_T43 l0_3 0).f0))).setCell ⟨gb257, 1, none⟩ (.slice A256_1 ((rd_T43 l0_3 0).f1).length c256_1)).setCell ⟨gb257, 2, none⟩ (.slice A256_2 ((rd_T43 l0_3 0).f2).length c256_2)).setCell ⟨gb257, 3, none⟩ (.string ((rd_T43 l0_3 0).f3))).setCell ⟨gb257, 4, none⟩ (.int .i64 ((rd_T43 l0_3 0).f4))).heap[gb257]? = some (.cells #[.int .i64 ((rd_T43 l0_3 0).f0), .slice A256_1 ((rd_T43 l0_3 0).f1).length c256_1, .slice A256_2 ((rd_T43 l0_3 0).f2).length c256_2, .string ((rd_T43 l0_3 0).f3), .int .i64 ((rd_T43 l0_3 0).f4)] 43 (0, 0))) := ⟨by (with_reducible repeat (first | refine qn ?_ _ | refine qd ?_ | refine qa ?_ _)); refine blk_put (cs := #[.int .i64 ((rd_T43 l0_3 0).f0), .slice A256_1 ((rd_T43 l0_3 0).f1).length c256_1, .slice A256_2 ((rd_T43 l0_3 0).f2).length c256_2, .string ((rd_T43 l0_3 0).f3), .int .i64 0]) ?_ 4 _ rfl; (with_reducible repeat (first | refine qn ?_ _ | refine qd ?_ | refine qa ?_ _)); refine blk_put (cs := #[.int .i64 ((rd_T43 l0_3 0).f0), .slice A256_1 ((rd_T43 l0_3 0).f1).length c256_1, .slice A256_2 ((rd_T43 l0_3 0).f2).length c256_2, .string (⟨#[]⟩ : ByteArray), .int .i64 0]) ?_ 3 _ rfl; (with_reducible repeat (first | refine qn ?_ _ | refine qd ?_ | refine qa ?_ _)); refine blk_put (cs := #[.int .i64 ((rd_T43 l0_3 0).f0), .slice A256_1 ((rd_T43 l0_3 0).f1).length c256_1, .slice none 0 0, .string (⟨#[]⟩ : ByteArray), .int .i64 0]) ?_ 2 _ rfl; (with_reducible repeat (first | refine qn ?_ _ | refine qd ?_ | refine qa ?_ _)); refine blk_put (cs := #[.int .i64 ((rd_T43 l0_3 0).f0), .slice none 0 0, .slice none 0 0, .string (⟨#[]⟩ : ByteArray), .int .i64 0]) ?_ 1 _ rfl; (with_reducible repeat (first | refine qn ?_ _ | refine qd ?_ | refine qa ?_ _)); refine blk_put (cs := #[.int .i64 0, .slice none 0 0, .slice none 0 0, .string (⟨#[]⟩ : ByteArray), .int .i64 0]) ?_ 0 _ rfl; (with_reducible repeat (first | refine qn ?_ _ | refine qd ?_ | refine qa ?_ _)); exact BK257.out⟩
    (have n2_ : Aside0 (Below w.heap.size w (((((w6.setCell ⟨gb257, 0, none⟩ (.int .i64 ((rd_T43 l0_3 0).f0))).setCell ⟨gb257, 1, none⟩ (.slice A256_1 ((rd_T43 l0_3 0).f1).length c256_1)).setCell ⟨gb257, 2, none⟩ (.slice A256_2 ((rd_T43 l0_3 0).f2).length c256_2)).setCell ⟨gb257, 3, none⟩ (.string ((rd_T43 l0_3 0).f3))).setCell ⟨gb257, 4, none⟩ (.int .i64 ((rd_T43 l0_3 0).f4)))) := ⟨by repeat (first | (with_reducible first | exact HB.out | apply qA | apply qN | apply qD | refine qS ?_ GE255.out | refine qS ?_ GE257.out) | exact HB.out)⟩); ((try clear BK255)); ((try clear BK257)); ((try clear HB)); (generalize (((((w6.setCell ⟨gb257, 0, none⟩ (.int .i64 ((rd_T43 l0_3 0).f0))).setCell ⟨gb257, 1, none⟩ (.slice A256_1 ((rd_T43 l0_3 0).f1).length c256_1)).setCell ⟨gb257, 2, none⟩ (.slice A256_2 ((rd_T43 l0_3 0).f2).length c256_2)).setCell ⟨gb257, 3, none⟩ (.string ((rd_T43 l0_3 0).f3))).setCell ⟨gb257, 4, none⟩ (.int .i64 ((rd_T43 l0_3 0).f4))) = w21 at n0_ n1_ n2_ ⊢); (have BK255 := n0_); (have BK257 := n1_); (have HB := n2_); clear n0_ n1_ n2_; (have n0_ := qM (qd BK255.out)); (have n1_ := qM (qd BK257.out)); (have n2_ := qM (qD HB.out)); clear BK255 BK257 HB; (have BK255 := n0_); (have BK257 := n1_); (have HB := n2_); clear n0_ n1_ n2_
    refine start_ (n := 25) (S := fun w' => w'.cell? ⟨gb257, 0, none⟩ = some (.int .i64 ((rd_T43 l0_3 0).f0)) ∧ w'.cell? ⟨gb257, 1, none⟩ = some (.slice A256_1 ((rd_T43 l0_3 0).f1).length c256_1) ∧ w'.cell? ⟨gb257, 2, none⟩ = some (.slice A256_2 ((rd_T43 l0_3 0).f2).length c256_2) ∧ w'.cell? ⟨gb257, 3, none⟩ = some (.string ((rd_T43 l0_3 0).f3)) ∧ w'.cell? ⟨gb257, 4, none⟩ = some (.int .i64 ((rd_T43 l0_3 0).f4))) (ds := []) #[false, false, false, false, false, false, false, false, false, false, false, false, false, false, false, false, false, false, false, false, false, false, false, false, false] (by kernel_rfl) rfl rfl ⟨(blk_cell BK257.out 0).trans rfl, (blk_cell BK257.out 1).trans rfl, (blk_cell BK257.out 2).trans rfl, (blk_cell BK257.out 3).trans rfl, (blk_cell BK257.out 4).trans rfl⟩ (fun hHeld => ?_); refine with_tabW arboristref15_start.tab2 arboristref15_start.bits2 (fun HT_ HW_ => ?_)
    (generalize w21.drew = w22 at BK255 BK257 HB hHeld ⊢); (refine pure_ (i := 0) (N := some 9) (v := ?_) (a' := ?_) #[true, false, false, false, false, false, false, false, false, false, false, false, false, false, false, false, false, false, false, false, false, false, false, false, false] rfl rfl (any_of HT_.out (by kernel_rfl)) (fun _ _ _ h => h) (Or.inl ⟨by rfl, ?_⟩) ?_ ?_); rotate_left; ((intro w'; go_simp; with_reducible rfl)); rotate_left; ((simp only [Act.put, List.setIfInBounds_toArray, List.set_cons_zero, List.set_cons_succ, i64_w, i32_w]; rfl)); (refine take_ (i := 1) (N := some 10) (v := ?_) (a' := ?_) #[true, true, false, false, false, false, false, false, false, false, false, false, false, false, false, false, false, false, false, false, false, false, false, false, false] rfl rfl (take_ofW HT_.out HW_.out (by kernel_rfl)) (fun _ _ _ h => h) (Or.inl ⟨by rfl, ?_⟩) hHeld ?_ ?_); rotate_left
    ·rintro w' ⟨s0, s1, s2, s3, s4⟩
     (go_simp); (with_reducible rfl)
    rotate_left; ((simp only [Act.put, List.setIfInBounds_toArray, List.set_cons_zero, List.set_cons_succ, i64_w, i32_w]; rfl)); (refine pure_ (i := 2) (N := some 11) (v := ?_) (a' := ?_) #[true, true, true, false, false, false, false, false, false, false, false, false, false, false, false, false, false, false, false, false, false, false, false, false, false] rfl rfl (any_of HT_.out (by kernel_rfl)) (fun _ _ _ h => h) (Or.inl ⟨by rfl, ?_⟩) ?_ ?_); rotate_left; ((intro w'; go_simp; with_reducible rfl)); rotate_left; ((simp only [Act.put, List.setIfInBounds_toArray, List.set_cons_zero, List.set_cons_succ, i64_w, i32_w]; rfl)); (refine pure_ (i := 3) (N := some 12) (v := ?_) (a' := ?_) #[true, true, true, true, false, false, false, false, false, false, false, false, false, false, false, false, false, false, false, false, false, false, false, false, false] rfl rfl (any_of HT_.out (by kernel_rfl)) (fun _ _ _ h => h) (Or.inl ⟨by rfl, ?_⟩) ?_ ?_); rotate_left; ((intro w'; go_simp; with_reducible rfl)); rotate_left; ((simp only [Act.put, List.setIfInBounds_toArray, List.set_cons_zero, List.set_cons_succ, i64_w, i32_w]; rfl)); (refine pure_ (i := 4) (N := some 13) (v := undef) (a' := ?_) #[true, true, true, true, true, false, false, false, false, false, false, false, false, false, false, false, false, false, false, false, false, false, false, false, false] rfl rfl (any_of HT_.out (by kernel_rfl)) (fun _ _ _ h => h) (Or.inr ⟨by rfl, rfl⟩) ?_ ?_); rotate_left; ((simp only [Act.put, List.setIfInBounds_toArray, List.set_cons_zero, List.set_cons_succ, i64_w, i32_w]; rfl)); (refine pure_ (i := 5) (N := some 14) (v := undef) (a' := ?_) #[true, true, true, true, true, true, false, false, false, false, false, false, false, false, false, false, false, false, false, false, false, false, false, false, false] rfl rfl (any_of HT_.out (by kernel_rfl)) (fun _ _ _ h => h) (Or.inr ⟨by rfl, rfl⟩) ?_ ?_); rotate_left; ((simp only [Act.put, List.setIfInBounds_toArray, List.set_cons_zero, List.set_cons_succ, i64_w, i32_w]; rfl)); (refine pure_ (i := 6) (N := some 15) (v := undef) (a' := ?_) #[true, true, true, true, true, true, true, false, false, false, false, false, false, false, false, false, false, false, false, false, false, false, false, false, false] rfl rfl (any_of HT_.out (by kernel_rfl)) (fun _ _ _ h => h) (Or.inr ⟨by rfl, rfl⟩) ?_ ?_); rotate_left; ((simp only [Act.put, List.setIfInBounds_toArray, List.set_cons_zero, List.set_cons_succ, i64_w, i32_w]; rfl)); (refine pure_ (i := 7) (N := some 16) (v := undef) (a' := ?_) #[true, true, true, true, true, true, true, true, false, false, false, false, false, false, false, false, false, false, false, false, false, false, false, false, false] rfl rfl (any_of HT_.out (by kernel_rfl)) (fun _ _ _ h => h) (Or.inr ⟨by rfl, rfl⟩) ?_ ?_)
    rotate_left; ((simp only [Act.put, List.setIfInBounds_toArray, List.set_cons_zero, List.set_cons_succ, i64_w, i32_w]; rfl)); (refine pure_ (i := 8) (N := some 17) (v := ?_) (a' := ?_) #[true, true, true, true, true, true, true, true, true, false, false, false, false, false, false, false, false, false, false, false, false, false, false, false, false] rfl rfl (any_of HT_.out (by kernel_rfl)) (fun _ _ _ h => h) (Or.inl ⟨by rfl, ?_⟩) ?_ ?_); rotate_left; ((intro w'; go_simp; with_reducible rfl)); rotate_left; ((simp only [Act.put, List.setIfInBounds_toArray, List.set_cons_zero, List.set_cons_succ, i64_w, i32_w]; rfl)); (refine pure_ (i := 9) (N := some 18) (v := ?_) (a' := ?_) #[true, true, true, true, true, true, true, true, true, true, false, false, false, false, false, false, false, false, false, false, false, false, false, false, false] rfl rfl (any_of HT_.out (by kernel_rfl)) (fun _ _ _ h => h) (Or.inl ⟨by rfl, ?_⟩) ?_ ?_); rotate_left; ((intro w'; go_simp; with_reducible rfl)); rotate_left; ((simp only [Act.put, List.setIfInBounds_toArray, List.set_cons_zero, List.set_cons_succ, i64_w, i32_w]; rfl)); (refine pure_ (i := 10) (N := some 19) (v := undef) (a' := ?_) #[true, true, true, true, true, true, true, true, true, true, true, false, false, false, false, false, false, false, false, false, false, false, false, false, false] rfl rfl (any_of HT_.out (by kernel_rfl)) (fun _ _ _ h => h) (Or.inr ⟨by rfl, rfl⟩) ?_ ?_); rotate_left; ((simp only [Act.put, List.setIfInBounds_toArray, List.set_cons_zero, List.set_cons_succ, i64_w, i32_w]; rfl)); (refine pure_ (i := 11) (N := some 20) (v := undef) (a' := ?_) #[true, true, true, true, true, true, true, true, true, true, true, true, false, false, false, false, false, false, false, false, false, false, false, false, false] rfl rfl (any_of HT_.out (by kernel_rfl)) (fun _ _ _ h => h) (Or.inr ⟨by rfl, rfl⟩) ?_ ?_); rotate_left; ((simp only [Act.put, List.setIfInBounds_toArray, List.set_cons_zero, List.set_cons_succ, i64_w, i32_w]; rfl)); (refine pure_ (i := 12) (N := some 21) (v := undef) (a' := ?_) #[true, true, true, true, true, true, true, true, true, true, true, true, true, false, false, false, false, false, false, false, false, false, false, false, false] rfl rfl (any_of HT_.out (by kernel_rfl)) (fun _ _ _ h => h) (Or.inr ⟨by rfl, rfl⟩) ?_ ?_); rotate_left; ((simp only [Act.put, List.setIfInBounds_toArray, List.set_cons_zero, List.set_cons_succ, i64_w, i32_w]; rfl)); (refine pure_ (i := 13) (N := some 22) (v := undef) (a' := ?_) #[true, true, true, true, true, true, true, true, true, true, true, true, true, true, false, false, false, false, false, false, false, false, false, false, false] rfl rfl (any_of HT_.out (by kernel_rfl)) (fun _ _ _ h => h) (Or.inr ⟨by rfl, rfl⟩) ?_ ?_)
    rotate_left; ((simp only [Act.put, List.setIfInBounds_toArray, List.set_cons_zero, List.set_cons_succ, i64_w, i32_w]; rfl)); (refine pure_ (i := 14) (N := some 23) (v := undef) (a' := ?_) #[true, true, true, true, true, true, true, true, true, true, true, true, true, true, true, false, false, false, false, false, false, false, false, false, false] rfl rfl (any_of HT_.out (by kernel_rfl)) (fun _ _ _ h => h) (Or.inr ⟨by rfl, rfl⟩) ?_ ?_); rotate_left; ((simp only [Act.put, List.setIfInBounds_toArray, List.set_cons_zero, List.set_cons_succ, i64_w, i32_w]; rfl)); (refine pure_ (i := 15) (N := some 24) (v := ?_) (a' := ?_) #[true, true, true, true, true, true, true, true, true, true, true, true, true, true, true, true, false, false, false, false, false, false, false, false, false] rfl rfl (any_of HT_.out (by kernel_rfl)) (fun _ _ _ h => h) (Or.inl ⟨by rfl, ?_⟩) ?_ ?_); rotate_left; ((intro w'; go_simp; with_reducible rfl)); rotate_left; ((simp only [Act.put, List.setIfInBounds_toArray, List.set_cons_zero, List.set_cons_succ, i64_w, i32_w]; rfl)); (refine pure_ (i := 16) (N := some 25) (v := ?_) (a' := ?_) #[true, true, true, true, true, true, true, true, true, true, true, true, true, true, true, true, true, false, false, false, false, false, false, false, false] rfl rfl (any_of HT_.out (by kernel_rfl)) (fun _ _ _ h => h) (Or.inl ⟨by rfl, ?_⟩) ?_ ?_); rotate_left; ((intro w'; go_simp; with_reducible rfl)); rotate_left; ((simp only [Act.put, List.setIfInBounds_toArray, List.set_cons_zero, List.set_cons_succ, i64_w, i32_w]; rfl)); (refine pure_ (i := 17) (N := some 26) (v := undef) (a' := ?_) #[true, true, true, true, true, true, true, true, true, true, true, true, true, true, true, true, true, true, false, false, false, false, false, false, false] rfl rfl (any_of HT_.out (by kernel_rfl)) (fun _ _ _ h => h) (Or.inr ⟨by rfl, rfl⟩) ?_ ?_); rotate_left; ((simp only [Act.put, List.setIfInBounds_toArray, List.set_cons_zero, List.set_cons_succ, i64_w, i32_w]; rfl)); (refine pure_ (i := 18) (N := some 27) (v := undef) (a' := ?_) #[true, true, true, true, true, true, true, true, true, true, true, true, true, true, true, true, true, true, true, false, false, false, false, false, false] rfl rfl (any_of HT_.out (by kernel_rfl)) (fun _ _ _ h => h) (Or.inr ⟨by rfl, rfl⟩) ?_ ?_); rotate_left; ((simp only [Act.put, List.setIfInBounds_toArray, List.set_cons_zero, List.set_cons_succ, i64_w, i32_w]; rfl)); (refine pure_ (i := 19) (N := some 28) (v := undef) (a' := ?_) #[true, true, true, true, true, true, true, true, true, true, true, true, true, true, true, true, true, true, true, true, false, false, false, false, false] rfl rfl (any_of HT_.out (by kernel_rfl)) (fun _ _ _ h => h) (Or.inr ⟨by rfl, rfl⟩) ?_ ?_)
    rotate_left; ((simp only [Act.put, List.setIfInBounds_toArray, List.set_cons_zero, List.set_cons_succ, i64_w, i32_w]; rfl)); (refine pure_ (i := 20) (N := some 29) (v := undef) (a' := ?_) #[true, true, true, true, true, true, true, true, true, true, true, true, true, true, true, true, true, true, true, true, true, false, false, false, false] rfl rfl (any_of HT_.out (by kernel_rfl)) (fun _ _ _ h => h) (Or.inr ⟨by rfl, rfl⟩) ?_ ?_); rotate_left; ((simp only [Act.put, List.setIfInBounds_toArray, List.set_cons_zero, List.set_cons_succ, i64_w, i32_w]; rfl)); (refine pure_ (i := 21) (N := some 30) (v := undef) (a' := ?_) #[true, true, true, true, true, true, true, true, true, true, true, true, true, true, true, true, true, true, true, true, true, true, false, false, false] rfl rfl (any_of HT_.out (by kernel_rfl)) (fun _ _ _ h => h) (Or.inr ⟨by rfl, rfl⟩) ?_ ?_); rotate_left; ((simp only [Act.put, List.setIfInBounds_toArray, List.set_cons_zero, List.set_cons_succ, i64_w, i32_w]; rfl)); (refine pure_ (i := 22) (N := some 31) (v := undef) (a' := ?_) #[true, true, true, true, true, true, true, true, true, true, true, true, true, true, true, true, true, true, true, true, true, true, true, false, false] rfl rfl (any_of HT_.out (by kernel_rfl)) (fun _ _ _ h => h) (Or.inr ⟨by rfl, rfl⟩) ?_ ?_); rotate_left; ((simp only [Act.put, List.setIfInBounds_toArray, List.set_cons_zero, List.set_cons_succ, i64_w, i32_w]; rfl)); (refine pure_ (i := 23) (N := some 32) (v := undef) (a' := ?_) #[true, true, true, true, true, true, true, true, true, true, true, true, true, true, true, true, true, true, true, true, true, true, true, true, false] rfl rfl (any_of HT_.out (by kernel_rfl)) (fun _ _ _ h => h) (Or.inr ⟨by rfl, rfl⟩) ?_ ?_); rotate_left; ((simp only [Act.put, List.setIfInBounds_toArray, List.set_cons_zero, List.set_cons_succ, i64_w, i32_w]; rfl)); (refine pure_ (i := 24) (N := some 33) (v := ?_) (a' := ?_) #[true, true, true, true, true, true, true, true, true, true, true, true, true, true, true, true, true, true, true, true, true, true, true, true, true] rfl rfl (any_of HT_.out (by kernel_rfl)) (fun _ _ _ h => h) (Or.inl ⟨by rfl, ?_⟩) ?_ ?_); rotate_left; ((intro w'; go_simp; with_reducible rfl)); rotate_left; ((simp only [Act.put, List.setIfInBounds_toArray, List.set_cons_zero, List.set_cons_succ, i64_w, i32_w]; rfl)); (refine done_ (done_of HT_.out (by kernel_rfl)) ?_); (try go_wp2); go_meet
    case rel => exact ⟨_, (true), (by first | rfl | (simp; done) | (simp [*]; done)), H', ⟨by first | omega | exact Nat.le_refl _⟩, ⟨by (with_reducible repeat (first | refine qn ?_ _ | refine qd ?_ | refine qa ?_ _)); exact BK255.out⟩, ⟨by (with_reducible repeat (first | refine qn ?_ _ | refine qd ?_ | refine qa ?_ _)); exact BK257.out⟩, ⟨by repeat (first | (with_reducible first | exact HB.out | apply qA | apply qN | apply qD | refine qS ?_ GE255.out | refine qS ?_ GE257.out) | exact HB.out)⟩⟩
  case rest =>
   clear HC3; (try clear c1); (try clear c2); (try clear p2); (try clear q2); (try clear hx2); (try clear qi2); (try clear c3); (try clear c9); (try clear c9b0); (try clear c9b1); (try clear c10); (try clear c10b0); (try clear c10b1); (try clear c11); (try clear hx258_0); (try clear hx259_0); (try clear p259); (try clear q259); (obtain ⟨kq, x33_2, rfl, HA, HJ2, BK255, BK257, HB⟩ := hcut)
   cases kq with
   | zero => exact absurd HA.out (by simp [arboristref15_start.j0])
   | succ kj2 =>
    (have H := HA.out); clear HA; (simp only [arboristref15_start.j0] at H); (by_cases c23 : x33_2 = true)
    ·subst c23
     (have H1 : (some true) = some r := by rw [if_pos rfl] at H; exact H); clear H; (have H := H1); clear H1; (obtain rfl := Option.some.inj H); go_wp2; (go_ret); (exact ⟨by first | rfl | (simp [errW_none, errW_some] <;> rfl) | (simp [*, errW_none, errW_some] <;> rfl), by repeat (first | (with_reducible first | exact HB.out | apply qA | apply qN | apply qD | refine qS ?_ GE255.out | refine qS ?_ GE257.out) | exact HB.out)⟩)
    ·replace c23 := Bool.eq_false_iff.mpr c23
     subst c23; (have H1 : (arboristref15_start.l0 kj2 1 l0_0 l0_1 l0_2 l0_3 l0_4) = some r := by rw [if_neg (show ¬ (false = true) by decide)] at H; exact H); clear H; (have H := H1); clear H1; (have H' := qM H); clear H; go_wp2; (go_loopg [4] kj2 (fun kq v4 w' => ∃ (x4_2 : Int), v4 = .int .i64 x4_2 ∧ Aside0 (arboristref15_start.l0 kq x4_2 l0_0 l0_1 l0_2 l0_3 l0_4 = some r) ∧ Aside0 (kq ≤ kj2) ∧ Aside0 (w'.heap[gb255]? = some (.cells #[(.slice A0_0 l0_0.length c0_0), (.slice A0_1 l0_1.length c0_1), (.slice A0_2 l0_2.length c0_2), (.slice (some ad256) l0_3.length c0_3), (.slice A0_4 l0_4.length c0_4)] 27 (0, 0))) ∧ Aside0 (w'.heap[gb257]? = some (.cells #[.int .i64 ((rd_T43 l0_3 0).f0), (.slice A256_1 ((rd_T43 l0_3 0).f1).length c256_1), (.slice A256_2 ((rd_T43 l0_3 0).f2).length c256_2), .string ((rd_T43 l0_3 0).f3), .int .i64 ((rd_T43 l0_3 0).f4)] 43 (0, 0))) ∧ Aside0 (Below w.heap.size w w')))
     case atStart => exact ⟨(1), (by first | rfl | (simp; done) | (simp [*]; done)), H', ⟨Nat.le_refl _⟩, ⟨by (with_reducible repeat (first | refine qn ?_ _ | refine qd ?_ | refine qa ?_ _)); exact BK255.out⟩, ⟨by (with_reducible repeat (first | refine qn ?_ _ | refine qd ?_ | refine qa ?_ _)); exact BK257.out⟩, ⟨by repeat (first | (with_reducible first | exact HB.out | apply qA | apply qN | apply qD | refine qS ?_ GE255.out | refine qS ?_ GE257.out) | exact HB.out)⟩⟩
     case round =>
      (clear H'); (try clear c1); (try clear c2); (try clear p2); (try clear q2); (try clear hx2); (try clear qi2); (try clear c3); (try clear c9); (try clear c9b0); (try clear c9b1); (try clear c10); (try clear c10b0); (try clear c10b1); (try clear c11); (try clear c23); (try clear hx258_0); (try clear hx259_0); (try clear p2); (try clear p259); (try clear q2); (try clear q259); (obtain ⟨x4_2, rfl, HA, HK2, BK255, BK257, HB⟩ := hrel)
      cases gk with
      | zero => exact absurd HA.out (by simp [arboristref15_start.l0])
      | succ k2 =>
       (have H := HA.out); clear HA; (simp only [arboristref15_start.l0] at H); (by_cases c24 : x4_2 < (l0_3.length : Int))
       ·rw [if_pos c24] at H
        (have c24b0 : decide (x4_2 < (l0_3.length : Int)) = true := decide_eq_true c24); clear c24; (by_cases c25 : 0 ≤ x4_2)
        ·rw [if_pos c25] at H
         (have c25b0 : decide (0 ≤ x4_2) = true := decide_eq_true c25); clear c25; (by_cases c26 : ((rd_T43 l0_3 x4_2).f0) = 0)
         ·rw [if_pos c26] at H
          (have c26b0 : (((rd_T43 l0_3 x4_2).f0) == 0) = true := beq_iff_eq.mpr c26); (have c26b1 : (((rd_T43 l0_3 x4_2).f0) != 0) = false := bne_eq_false_iff_eq.mpr c26); clear c26; (obtain rfl := Option.some.inj H); (have hnb27 := NB255_257.out); (have hnc27 := NB257_255.out); (obtain ⟨hcz28_0, hcz28_1, hcz28_2, hcz28_3, hcz28_4, hfz28_0, hfz28_1, hfz28_2, hfz28_3, hfz28_4⟩ := bx5 BK255.out); (have p261 : 0 ≤ (x4_2 : Int) := qo (by first | (with_reducible assumption) | assumption)); (have q261 : x4_2 < (l0_3.length : Int) := qo (by first | (with_reducible assumption) | assumption)); (obtain ⟨ad261, A261_1, c261_1, A261_2, c261_2, e261, hx261_0, hx261_1, hx261_2, hx261_3, hx261_4, hl261_1, hi261_1, hl261_2, hi261_2⟩ := at_T43 HR0_3.out x4_2 p261 q261); (obtain rfl : ad256 = ad261 := (by injection e261)); (replace hx261_0 := (HB.out.cell (qB w _ hx261_0)).trans hx261_0); (replace hx261_1 := (HB.out.cell (qB w _ hx261_1)).trans hx261_1); (replace hx261_2 := (HB.out.cell (qB w _ hx261_2)).trans hx261_2); (replace hx261_3 := (HB.out.cell (qB w _ hx261_3)).trans hx261_3); (replace hx261_4 := (HB.out.cell (qB w _ hx261_4)).trans hx261_4); (have HR261_1 := qM hi261_1); (have HC261_1 := qM hl261_1); clear hi261_1 hl261_1; (have HR261_2 := qM hi261_2); (have HC261_2 := qM hl261_2); clear hi261_2 hl261_2; (replace p261 := eq_true p261); (replace q261 := eq_true q261); go_wp2; (go_ret); (exact ⟨by first | rfl | (simp [errW_none, errW_some] <;> rfl) | (simp [*, errW_none, errW_some] <;> rfl), by repeat (first | (with_reducible first | exact HB.out | apply qA | apply qN | apply qD | refine qS ?_ GE255.out | refine qS ?_ GE257.out) | exact HB.out)⟩)
         ·rw [if_neg c26] at H
          (have c26b0 : (((rd_T43 l0_3 x4_2).f0) == 0) = false := beq_eq_false_iff_ne.mpr c26); (have c26b1 : (((rd_T43 l0_3 x4_2).f0) != 0) = true := bne_iff_ne.mpr c26); (have H' := qM H); clear H; (have hnb29 := NB255_257.out); (have hnc29 := NB257_255.out); (obtain ⟨hcz30_0, hcz30_1, hcz30_2, hcz30_3, hcz30_4, hfz30_0, hfz30_1, hfz30_2, hfz30_3, hfz30_4⟩ := bx5 BK255.out); (have p261 : 0 ≤ (x4_2 : Int) := qo (by first | (with_reducible assumption) | assumption)); (have q261 : x4_2 < (l0_3.length : Int) := qo (by first | (with_reducible assumption) | assumption)); (obtain ⟨ad261, A261_1, c261_1, A261_2, c261_2, e261, hx261_0, hx261_1, hx261_2, hx261_3, hx261_4, hl261_1, hi261_1, hl261_2, hi261_2⟩ := at_T43 HR0_3.out x4_2 p261 q261); (obtain rfl : ad256 = ad261 := (by injection e261)); (replace hx261_0 := (HB.out.cell (qB w _ hx261_0)).trans hx261_0); (replace hx261_1 := (HB.out.cell (qB w _ hx261_1)).trans hx261_1); (replace hx261_2 := (HB.out.cell (qB w _ hx261_2)).trans hx261_2); (replace hx261_3 := (HB.out.cell (qB w _ hx261_3)).trans hx261_3); (replace hx261_4 := (HB.out.cell (qB w _ hx261_4)).trans hx261_4); (have HR261_1 := qM hi261_1); (have HC261_1 := qM hl261_1); clear hi261_1 hl261_1; (have HR261_2 := qM hi261_2); (have HC261_2 := qM hl261_2); clear hi261_2 hl261_2; (replace p261 := eq_true p261); (replace q261 := eq_true q261); go_wp2; (go_roundg k2)
          case measure => have := HJ2.out; have := HK2.out; omega
          case rel => exact ⟨(wrap64 (x4_2 + 1)), (by first | rfl | (simp; done) | (simp [*]; done)), H', ⟨by have := HJ2.out; have := HK2.out; omega⟩, ⟨by (with_reducible repeat (first | refine qn ?_ _ | refine qd ?_ | refine qa ?_ _)); exact BK255.out⟩, ⟨by (with_reducible repeat (first | refine qn ?_ _ | refine qd ?_ | refine qa ?_ _)); exact BK257.out⟩, ⟨by repeat (first | (with_reducible first | exact HB.out | apply qA | apply qN | apply qD | refine qS ?_ GE255.out | refine qS ?_ GE257.out) | exact HB.out)⟩⟩
        ·rw [if_neg c25] at H
         exact absurd H (by simp)
       ·rw [if_neg c24] at H
        (have c24b0 : decide (x4_2 < (l0_3.length : Int)) = false := decide_eq_false c24); clear c24; (obtain rfl := Option.some.inj H); (have hnb31 := NB255_257.out); (have hnc31 := NB257_255.out); (obtain ⟨hcz32_0, hcz32_1, hcz32_2, hcz32_3, hcz32_4, hfz32_0, hfz32_1, hfz32_2, hfz32_3, hfz32_4⟩ := bx5 BK255.out); go_wp2; (go_ret); (exact ⟨by first | rfl | (simp [errW_none, errW_some] <;> rfl) | (simp [*, errW_none, errW_some] <;> rfl), by repeat (first | (with_reducible first | exact HB.out | apply qA | apply qN | apply qD | refine qS ?_ GE255.out | refine qS ?_ GE257.out) | exact HB.out)⟩)
 ·rw [if_neg c2] at H
  exact absurd H (by simp)
end Go.Proofs.YtgchidlombijbaaDoor.H
end
