import Derived.Test.YtgchidlombijbaaDoorZp4
section
namespace Go.Proofs.YtgchidlombijbaaDoor.H
open Go.RowKit Go.Proofs.YtgchidlombijbaaDoorW.PrintWords Go.Proofs.YtgchidlombijbaaDoorW.PrintLast Go.Proofs.YtgchidlombijbaaDoorW.PrintMore
open Go.Maps
set_option linter.unusedVariables false
set_option linter.unusedSimpArgs false
def termsGo (n : Int) : (Int → Bool) → List Int → Option (Int → Bool)
  | met, [] => some met
  | met, t :: r => if 2 ≤ t ∧ t ≤ n - 1 ∧ met t = false then termsGo n (fun z => z == t || met z) r else none
def levelsGo (n : Int) : (Int → Bool) → List S46 → Int
  | _, [] => 0
  | met, x :: r => if 1 ≤ x.f0 ∧ x.f0 ≤ 4 then (match termsGo n met x.f1 with | none => 24 | some m => levelsGo n m r) else 24
def rulesGo (k : Nat) (l0_0 l0_1 : List ByteArray) (l0_2 : List Int) (l0_3 : List S43) (l0_4 : List S46) : Int → List S43 → Option Int
  | _, [] => some 0
  | ahead, x :: r => (grammar_rule.f k l0_0 l0_1 l0_2 l0_3 l0_4 x.f0 x.f1 x.f2 x.f3 x.f4 ahead).bind fun e => if e = 0 then rulesGo k l0_0 l0_1 l0_2 l0_3 l0_4 x.f0 r else some e
def grammar_Right.ok (l0 : List ByteArray) (l4 : List S46) : Bool := decide (l0.length ≤ 1000000) && decide (l4.length ≤ 1000000) && l4.all (fun x => decide (x.f1.length ≤ 1000000) && x.f1.all (fun t => decide (-9223372036854775808 ≤ t) && decide (t ≤ 9223372036854775807)))
def grammar_Right.f (k : Nat) (l0_0 : List ByteArray) (l0_1 : List ByteArray) (l0_2 : List Int) (l0_3 : List S43) (l0_4 : List S46) : Option Int :=
  (grammar_counts.f k l0_0 l0_1 l0_2 l0_3 l0_4).bind fun c => if c = true then
    ((grammar_twice.f l0_0).bind fun t => if t = true then some 8 else
      ((grammar_twice.f l0_1).bind fun u => if u = true then some 8 else
        ((grammar_start.f k l0_0 l0_1 l0_2 l0_3 l0_4).bind fun s => if s = true then
          ((rulesGo k l0_0 l0_1 l0_2 l0_3 l0_4 0 l0_3).bind fun e => if e = 0 then
            (if grammar_Right.ok l0_0 l0_4 = true then some (levelsGo l0_0.length (fun _ => false) l0_4) else none)
          else some e)
        else some 23)))
  else some 9
def MM {H : Type} (D : DataW H) (met : Int → Bool) : Prop := ∀ z : Int, D.atKey (.int .i64 z) (.lit (.int .i64 0)) = .lit (.int .i64 (if met z = true then 1 else 0))
theorem MM.zero {H : Type} : MM (H := H) (.map []) (fun _ => false) := fun z => by simp [DataW.atKey]
theorem MM.put {H : Type} {D : DataW H} {met : Int → Bool} (h : MM D met) (hm : Maps.IsMap D) (t : Int) : MM (D.put (.int .i64 t) (.lit (.int .i64 1))) (fun z => z == t || met z) := fun z => by
  have hk : WideAt.IsKeyLit (.int .i64 t) := trivial
  by_cases e : z = t
  · subst e
    rw [Maps.atKey_put_same hm hk]
    simp
  · rw [Maps.atKey_put_other (fun he => e (by injection he)), h z]
    simp [e]
theorem law_int : Keyed Tryd.prog 3 := int_keyed Tryd.underlying3
def Cap (n j i : Nat) : Prop := n ≤ j * 1000000 + i
set_option maxRecDepth 100000
theorem Cap.zero : Cap 0 0 0 := Nat.zero_le _
theorem Cap.step {n j i : Nat} (h : Cap n j i) : Cap (n + 1) j (i + 1) := by unfold Cap at *; omega
theorem Cap.next {n j i : Nat} (h : Cap n j i) (hi : i ≤ 1000000) : Cap n (j + 1) 0 := by
  unfold Cap at *
  rw [Nat.succ_mul, Nat.add_zero]
  exact Nat.le_trans h (Nat.add_le_add_left hi _)
theorem Cap.lt {n j i l : Nat} (h : Cap n j i) (hj : j < l) (hl : l ≤ 1000000) (hi : i ≤ 1000000) : n < maxLen := by
  unfold Cap at h
  have h2 : j * 1000000 ≤ l * 1000000 := Nat.mul_le_mul_right _ (Nat.le_of_lt hj)
  have h3 : l * 1000000 ≤ 1000000 * 1000000 := Nat.mul_le_mul_right _ hl
  have h4 : n ≤ 1000000 * 1000000 + 1000000 := Nat.le_trans h (Nat.add_le_add (Nat.le_trans h2 h3) hi)
  refine Nat.lt_of_le_of_lt h4 ?_
  unfold maxLen
  decide
theorem within_no {t n : Int} (h : ¬ (2 ≤ t ∧ t ≤ n)) : grammar_within.f t 2 n = some false := by
  unfold grammar_within.f
  by_cases h5 : t ≥ 2
  · rw [if_pos h5, decide_eq_false (fun z => h ⟨h5, z⟩)]
  · rw [if_neg h5]
theorem rulesGo.mono (l0_0 l0_1 : List ByteArray) (l0_2 : List Int) (l0_3 : List S43) (l0_4 : List S46) (k : Nat) : ∀ (l : List S43) (a : Int), LeO (rulesGo k l0_0 l0_1 l0_2 l0_3 l0_4 a l) (rulesGo (k + 1) l0_0 l0_1 l0_2 l0_3 l0_4 a l)
  | [], a => LeO.refl _
  | x :: r, a => LeO.bind (grammar_rule.mono _ _ _ _ _ _ _ _ _ _ _ k) fun e => LeO.ite (rulesGo.mono _ _ _ _ _ k r _) (LeO.refl _)
theorem grammar_Right.mono : ∀ a0 a1 a2 a3 a4 k, LeO (grammar_Right.f k a0 a1 a2 a3 a4) (grammar_Right.f (k + 1) a0 a1 a2 a3 a4) := by
  intro a0 a1 a2 a3 a4 k
  unfold grammar_Right.f
  refine LeO.bind (grammar_counts.mono _ _ _ _ _ k) fun c => LeO.ite ?_ (LeO.refl _)
  refine LeO.bind (LeO.refl _) fun t => LeO.ite (LeO.refl _) ?_
  refine LeO.bind (LeO.refl _) fun u => LeO.ite (LeO.refl _) ?_
  refine LeO.bind (grammar_start.mono _ _ _ _ _ k) fun s => LeO.ite ?_ (LeO.refl _)
  exact LeO.bind (rulesGo.mono _ _ _ _ _ k _ _) fun e => LeO.refl _
set_option maxHeartbeats 800000 in
set_option maxRecDepth 100000 in
theorem grammar_Right.calls (k : Nat) (A0_0 : Option Addr) (c0_0 : Nat) (l0_0 : List ByteArray) (A0_1 : Option Addr) (c0_1 : Nat) (l0_1 : List ByteArray) (A0_2 : Option Addr) (c0_2 : Nat) (l0_2 : List Int) (A0_3 : Option Addr) (c0_3 : Nat) (l0_3 : List (S43)) (A0_4 : Option Addr) (c0_4 : Nat) (l0_4 : List (S46)) (r : Int) (w : World) (hr0_0 : Kd.C Kd.string w A0_0 l0_0.length l0_0) (hc0_0 : l0_0.length ≤ c0_0) (hr0_1 : Kd.C Kd.string w A0_1 l0_1.length l0_1) (hc0_1 : l0_1.length ≤ c0_1) (hr0_2 : Kd.C (Kd.int .i64) w A0_2 l0_2.length l0_2) (hc0_2 : l0_2.length ≤ c0_2) (hr0_3 : Kd.C k43 w A0_3 l0_3.length l0_3) (hc0_3 : l0_3.length ≤ c0_3) (hr0_4 : Kd.C k46 w A0_4 l0_4.length l0_4) (hc0_4 : l0_4.length ≤ c0_4) (h : grammar_Right.f k l0_0 l0_1 l0_2 l0_3 l0_4 = some r) :
    Calls Tryd.prog 10 #[.agg #[.slice A0_0 l0_0.length c0_0, .slice A0_1 l0_1.length c0_1, .slice A0_2 l0_2.length c0_2, .slice A0_3 l0_3.length c0_3, .slice A0_4 l0_4.length c0_4]] w fun e w' => e = .returned (.int .i64 r) ∧ Below w.heap.size w w' := by
  have HG := Aside0.mk (InG.mk hr0_0 hc0_0 hr0_1 hc0_1 hr0_2 hc0_2 hr0_3 hc0_3 hr0_4 hc0_4)
  clear hr0_0 hc0_0 hr0_1 hc0_1 hr0_2 hc0_2 hr0_3 hc0_3 hr0_4 hc0_4
  have hmm := @run_makeMap Tryd.prog
  have hb3 : l0_3.length ≤ 9223372036854775807 := HG.out.r3.2.1
  have hb4 : l0_4.length ≤ 9223372036854775807 := HG.out.r4.2.1
  have hu := Tryd.underlying27
  have hur := Tryd.underlying43
  have hul := Tryd.underlying46
  unfold grammar_Right.f at h
  obtain ⟨c, hcnt, h1⟩ := Option.bind_eq_some_iff.mp h
  clear h
  have HCN := Aside0.mk hcnt
  clear hcnt
  go_enter Tryd.func10, Tryd.ntmps10
  cases c with
  | false =>
    obtain rfl : r = 9 := by simpa using h1.symm
    clear h1
    go_wp2_with (go_at_call 25; refine ((HG.out.below (below_alloc (Below.refl _ _) _)).counts HCN.out).mono ?_; rintro e w1 ⟨rfl, hb⟩; have HB := Aside0.mk (below_step (below_alloc (Below.refl _ _) _) hb); clear hb)
    go_ret
    exact ⟨rfl, HB.out⟩
  | true =>
    simp only [if_true] at h1
    obtain ⟨t, htw, h⟩ := Option.bind_eq_some_iff.mp h1
    clear h1
    have HTW := Aside0.mk htw
    clear htw
    go_wp2_with (go_at_call 25; refine ((HG.out.below (below_alloc (Below.refl _ _) _)).counts HCN.out).mono ?_; rintro e w1 ⟨rfl, hb⟩; have HB := Aside0.mk (below_step (below_alloc (Below.refl _ _) _) hb); have BK := Aside0.mk (GB.below (GB.new w (A0 := A0_0) (c0 := c0_0) (l0 := l0_0) (A1 := A0_1) (c1 := c0_1) (l1 := l0_1) (A2 := A0_2) (c2 := c0_2) (l2 := l0_2) (A3 := A0_3) (c3 := c0_3) (l3 := l0_3) (A4 := A0_4) (c4 := c0_4) (l4 := l0_4)) hb); clear hb; obtain ⟨hcz0, hcz1, hcz2, hcz3, hcz4⟩ := BK.out.cells)
    refine (grammar_twice.calls _ _ l0_0 t _ (Kd.C_below HG.out.r0 HB.out) HG.out.h0 HTW.out).mono ?_
    rintro e w2 ⟨rfl, hb⟩
    replace HB := Aside0.mk (below_step HB.out hb)
    replace BK := Aside0.mk (BK.out.below hb)
    clear hcz0 hcz1 hcz2 hcz3 hcz4 hb HTW
    obtain ⟨hcz0, hcz1, hcz2, hcz3, hcz4⟩ := BK.out.cells
    cases t with
    | true =>
      obtain rfl : r = 8 := by simpa using h.symm
      clear h
      go_wp2_with fail
      go_ret
      exact ⟨rfl, HB.out⟩
    | false =>
    simp only [Bool.false_eq_true, if_false] at h
    obtain ⟨u, htw, h2⟩ := Option.bind_eq_some_iff.mp h
    clear h
    have HTW := Aside0.mk htw
    have HH := Aside0.mk h2
    clear htw h2
    go_wp2_with fail
    refine (grammar_twice.calls _ _ l0_1 u _ (Kd.C_below HG.out.r1 HB.out) HG.out.h1 HTW.out).mono ?_
    rintro e w3 ⟨rfl, hb⟩
    replace HB := Aside0.mk (below_step HB.out hb)
    replace BK := Aside0.mk (BK.out.below hb)
    clear hcz0 hcz1 hcz2 hcz3 hcz4 hb HTW
    obtain ⟨hcz0, hcz1, hcz2, hcz3, hcz4⟩ := BK.out.cells
    cases u with
    | true =>
      obtain rfl : r = 8 := by simpa using HH.out.symm
      go_wp2_with fail
      go_ret
      exact ⟨rfl, HB.out⟩
    | false =>
    have h := HH.out
    clear HH
    simp only [Bool.false_eq_true, if_false] at h
    obtain ⟨s, hst, h2⟩ := Option.bind_eq_some_iff.mp h
    clear h
    have HST := Aside0.mk hst
    have HH := Aside0.mk h2
    clear hst h2
    go_wp2_with fail
    refine ((HG.out.below HB.out).start HST.out).mono ?_
    rintro e w4 ⟨rfl, hb⟩
    replace HB := Aside0.mk (below_step HB.out hb)
    replace BK := Aside0.mk (BK.out.below hb)
    clear hcz0 hcz1 hcz2 hcz3 hcz4 hb HST
    obtain ⟨hcz0, hcz1, hcz2, hcz3, hcz4⟩ := BK.out.cells
    cases s with
    | false =>
      obtain rfl : r = 23 := by simpa using HH.out.symm
      go_wp2_with fail
      go_ret
      exact ⟨rfl, HB.out⟩
    | true =>
    have h := HH.out
    clear HH
    simp only [if_true] at h
    have HH := Aside0.mk h
    clear h
    go_wp2_with fail
    go_loopw [3, 32] (fun v3 v32 wr => ∃ (a : Int) (i : Nat), v3 = .int .i64 a ∧ i ≤ l0_3.length ∧ v32 = .int .i64 i ∧ Aside0 (((rulesGo k l0_0 l0_1 l0_2 l0_3 l0_4 a (l0_3.drop i)).bind fun e => if e = 0 then
            (if grammar_Right.ok l0_0 l0_4 = true then some (levelsGo l0_0.length (fun _ => false) l0_4) else none)
          else some e) = some r) ∧ Aside0 (GB wr w.heap.size A0_0 c0_0 l0_0 A0_1 c0_1 l0_1 A0_2 c0_2 l0_2 A0_3 c0_3 l0_3 A0_4 c0_4 l0_4) ∧ Aside0 (Below w.heap.size w wr))
      (fun _ v32 _ => l0_3.length - (intOf v32).toNat)
    case atStart => exact ⟨0, 0, rfl, Nat.zero_le _, rfl, HH, BK, HB⟩
    case round =>
      clear HH BK HB hcz0 hcz1 hcz2 hcz3 hcz4
      obtain ⟨a, i, rfl, hi, rfl, HH, BK, HB⟩ := hrel
      have hsz : w.heap.size < wr.heap.size := blk_lt BK.out
      have hne : ¬ (w.heap.size = wr.heap.size) := Nat.ne_of_lt hsz
      obtain ⟨hcz0, hcz1, hcz2, hcz3, hcz4⟩ := BK.out.cells
      by_cases hlt : i < l0_3.length
      · obtain ⟨ad, A1, c1, A2, c2, e0, hx0, hx1, hx2, hx3, hx4, hl1, hi1, hl2, hi2⟩ := at_T43 HG.out.r3 (i : Int) (by omega) (by omega)
        cases e0
        simp only [Int.toNat_natCast] at hx0 hx1 hx2 hx3 hx4
        replace hx0 := (HB.out.cell (World.block_lt_of_cell? w _ hx0)).trans hx0
        replace hx1 := (HB.out.cell (World.block_lt_of_cell? w _ hx1)).trans hx1
        replace hx2 := (HB.out.cell (World.block_lt_of_cell? w _ hx2)).trans hx2
        replace hx3 := (HB.out.cell (World.block_lt_of_cell? w _ hx3)).trans hx3
        replace hx4 := (HB.out.cell (World.block_lt_of_cell? w _ hx4)).trans hx4
        have HI1 := Aside0.mk hi1
        have HI2 := Aside0.mk hi2
        clear hi1 hi2
        have h := HH.out
        rw [List.drop_eq_getElem_cons hlt, show l0_3[i] = rd_T43 l0_3 (i : Int) from by simp [rd_T43, List.getD_eq_getElem?_getD, List.getElem?_eq_getElem hlt]] at h
        simp only [rulesGo, Option.bind_assoc] at h
        obtain ⟨e1, hrl, h2⟩ := Option.bind_eq_some_iff.mp h
        have HRL := Aside0.mk hrl
        have HH2 := Aside0.mk h2
        clear h h2 hrl HH
        go_wp2_with fail
        refine (grammar_rule.calls k _ _ l0_0 _ _ l0_1 _ _ l0_2 _ _ l0_3 _ _ l0_4 _ _ _ _ _ _ _ _ _ a e1 _ ?s0 HG.out.h0 ?s1 HG.out.h1 ?s2 HG.out.h2 ?s3 HG.out.h3 ?s4 HG.out.h4 ?t1 hl1 ?t2 hl2 HRL.out).mono ?_
        case s0 => exact Kd.C_below HG.out.r0 (by repeat (first | exact HB.out | refine below_set ?_ (Nat.le_of_lt hsz) | apply below_alloc))
        case s1 => exact Kd.C_below HG.out.r1 (by repeat (first | exact HB.out | refine below_set ?_ (Nat.le_of_lt hsz) | apply below_alloc))
        case s2 => exact Kd.C_below HG.out.r2 (by repeat (first | exact HB.out | refine below_set ?_ (Nat.le_of_lt hsz) | apply below_alloc))
        case s3 => exact Kd.C_below HG.out.r3 (by repeat (first | exact HB.out | refine below_set ?_ (Nat.le_of_lt hsz) | apply below_alloc))
        case s4 => exact Kd.C_below HG.out.r4 (by repeat (first | exact HB.out | refine below_set ?_ (Nat.le_of_lt hsz) | apply below_alloc))
        case t1 => exact Kd.C_below HI1.out (by repeat (first | exact HB.out | refine below_set ?_ (Nat.le_of_lt hsz) | apply below_alloc))
        case t2 => exact Kd.C_below HI2.out (by repeat (first | exact HB.out | refine below_set ?_ (Nat.le_of_lt hsz) | apply below_alloc))
        rintro e w5 ⟨rfl, hb⟩
        have HB2 := Aside0.mk (below_step (w := w) (by repeat (first | exact HB.out | refine below_set ?_ (Nat.le_of_lt hsz) | apply below_alloc)) hb)
        have BK2 := Aside0.mk (show GB w5 w.heap.size A0_0 c0_0 l0_0 A0_1 c0_1 l0_1 A0_2 c0_2 l0_2 _ c0_3 l0_3 A0_4 c0_4 l0_4 from blk_below (g := w.heap.size) (by repeat (first | exact BK.out | refine blk_far ?_ hne _ | refine blk_alloc ?_ _)) hb)
        have BX := Aside0.mk (blk_below (g := wr.heap.size) (o := .cells #[.int .i64 (rd_T43 l0_3 (i : Int)).f0, .slice A1 (rd_T43 l0_3 (i : Int)).f1.length c1, .slice A2 (rd_T43 l0_3 (i : Int)).f2.length c2, .string (rd_T43 l0_3 (i : Int)).f3, .int .i64 (rd_T43 l0_3 (i : Int)).f4] 43 (0, 0)) (blk_new wr _) hb)
        clear hx0 hx1 hx2 hx3 hx4 hb hcz0 hcz1 hcz2 hcz3 hcz4
        have hy0 : w5.cell? ⟨wr.heap.size, 0, none⟩ = some (.int .i64 (rd_T43 l0_3 (i : Int)).f0) := (blk_cell BX.out 0).trans rfl
        by_cases he : e1 = 0
        · subst he
          have HR2 := Aside0.mk HH2.out
          simp only [if_true] at HR2
          go_wp2_with fail
          go_roundw
          case rel => exact ⟨_, i + 1, rfl, by omega, by go_num, HR2, BK2, HB2⟩
          case measure => simp [intOf]; omega
        · obtain rfl : r = e1 := by have := HH2.out; rw [if_neg he] at this; simpa [he] using this.symm
          have hq1 : (r == 0) = false := beq_eq_false_iff_ne.mpr he
          have hq2 : (r != 0) = true := bne_iff_ne.mpr he
          go_wp2_with fail
          go_ret
          exact ⟨rfl, HB2.out⟩
      · have hie : i = l0_3.length := by omega
        subst hie
        have h := HH.out
        rw [List.drop_of_length_le (Nat.le_refl _)] at h
        simp only [rulesGo, Option.bind_some, if_true] at h
        split at h
        case isFalse => cases h
        rename_i hok
        have HR := Aside0.mk (Option.some.inj h)
        have HOK := Aside0.mk hok
        clear h hok HH
        simp only [grammar_Right.ok, Bool.and_eq_true, decide_eq_true_eq, List.all_eq_true] at HOK
        have hT0 : l0_0.length ≤ 1000000 := HOK.out.1.1
        have hT4 : l0_4.length ≤ 1000000 := HOK.out.1.2
        have HX := Aside0.mk HOK.out.2
        clear HOK hcz0 hcz1 hcz2 hcz3
        obtain ⟨wo, rfl⟩ : ∃ wo : World, wo = wr := ⟨_, rfl⟩
        go_wp2_with fail
        go_loopw [50] (fun v50 wr => ∃ (j n : Nat) (met : Int → Bool), j ≤ l0_4.length ∧ v50 = .int .i64 j ∧ Aside0 (Cap n j 0) ∧ (∃ D : DataW Unit, Aside0 (wr.ownsMap Tryd.prog 3 (plainElem Tryd.prog 3) wo.heap.size n D) ∧ Aside0 (MM D met)) ∧ Aside0 (levelsGo l0_0.length met (l0_4.drop j) = r) ∧ Aside0 (GB wr w.heap.size A0_0 c0_0 l0_0 A0_1 c0_1 l0_1 A0_2 c0_2 l0_2 A0_3 c0_3 l0_3 A0_4 c0_4 l0_4) ∧ Aside0 (Below w.heap.size w wr))
          (fun v50 _ => l0_4.length - (intOf v50).toNat)
        case atStart => exact ⟨0, 0, fun _ => false, Nat.zero_le _, rfl, ⟨Cap.zero⟩, ⟨.map [], ⟨World.ownsMap_made _ _ _ _⟩, ⟨MM.zero⟩⟩, HR, ⟨blk_alloc BK.out _⟩, ⟨below_alloc HB.out _⟩⟩
        case round =>
          clear HR BK HB hcz4
          obtain ⟨j, n, met, hj, rfl, hn, ⟨D, HO, HD⟩, HR, BK, HB⟩ := hrel
          obtain ⟨hcz0, hcz1, hcz2, hcz3, hcz4⟩ := BK.out.cells
          have hsz2 : w.heap.size < wr.heap.size := blk_lt BK.out
          have hne2 : ¬ (w.heap.size = wr.heap.size) := Nat.ne_of_lt hsz2
          by_cases hlt2 : j < l0_4.length
          · obtain ⟨ad, A1, c1, e0, hx0, hx1, hl1, hi1⟩ := at_T46 HG.out.r4 (j : Int) (by omega) (by omega)
            cases e0
            simp only [Int.toNat_natCast] at hx0 hx1
            replace hx0 := (HB.out.cell (World.block_lt_of_cell? w _ hx0)).trans hx0
            replace hx1 := (HB.out.cell (World.block_lt_of_cell? w _ hx1)).trans hx1
            have HX1 := Aside0.mk (HX.out (l0_4[j]) (List.getElem_mem hlt2))
            have HR1 := HR.out
            rw [List.drop_eq_getElem_cons hlt2] at HR1
            have ex : l0_4[j] = rd_T46 l0_4 (j : Int) := by simp [rd_T46, List.getD_eq_getElem?_getD, List.getElem?_eq_getElem hlt2]
            rw [ex] at HR1 HX1
            simp only [levelsGo] at HR1
            obtain ⟨x, hx⟩ : ∃ x, x = rd_T46 l0_4 (j : Int) := ⟨_, rfl⟩
            rw [← hx] at HR1 HX1 hx0 hx1 hl1 hi1
            have HR2 := Aside0.mk HR1
            have HI := Aside0.mk hi1
            clear ex hx HR1 HR hi1
            by_cases h1 : 1 ≤ x.f0
            · by_cases h2 : x.f0 ≤ 4
              · have HR1 := HR2.out
                rw [if_pos ⟨h1, h2⟩] at HR1
                have HR3 := Aside0.mk HR1
                clear HR1 HR2
                have hxl : x.f1.length ≤ 1000000 := HX1.out.1
                have q1 : decide (x.f0 < 1) = false := decide_eq_false (by omega)
                have q2 : decide (4 < x.f0) = false := decide_eq_false (by omega)
                go_wp2_with fail
                obtain ⟨wq, rfl⟩ : ∃ wq : World, wq = wr := ⟨_, rfl⟩
                go_loopw [65] (fun v65 wr => ∃ (i m : Nat) (met : Int → Bool), i ≤ x.f1.length ∧ v65 = .int .i64 i ∧ Aside0 (Cap m j i) ∧ (∃ D : DataW Unit, Aside0 (wr.ownsMap Tryd.prog 3 (plainElem Tryd.prog 3) wo.heap.size m D) ∧ Aside0 (MM D met)) ∧ Aside0 ((match termsGo l0_0.length met (x.f1.drop i) with | none => 24 | some m => levelsGo l0_0.length m (l0_4.drop (j + 1))) = r) ∧ Aside0 (GB wr w.heap.size A0_0 c0_0 l0_0 A0_1 c0_1 l0_1 A0_2 c0_2 l0_2 A0_3 c0_3 l0_3 _ c0_4 l0_4) ∧ Aside0 (Below w.heap.size w wr))
                  (fun v65 _ => x.f1.length - (intOf v65).toNat)
                case atStart => exact ⟨0, n, met, Nat.zero_le _, rfl, hn, ⟨D, ⟨HO.out.alloc _⟩, HD⟩, HR3, ⟨blk_alloc BK.out _⟩, ⟨below_alloc HB.out _⟩⟩
                case round =>
                  clear HR3 BK HB HO HD hx0 hx1 hcz0 hcz1 hcz2 hcz3 hcz4
                  obtain ⟨i, m, met, hi, rfl, hm, ⟨D, HO, HD⟩, HR, BK, HB⟩ := hrel
                  obtain ⟨hcz0, hcz1, hcz2, hcz3, hcz4⟩ := BK.out.cells
                  by_cases hlt : i < x.f1.length
                  · obtain ⟨ad, e0, hcell⟩ := Kd.at_int HI.out (i : Int) (by omega) (by omega)
                    cases e0
                    rw [Int.toNat_natCast] at hcell
                    replace hcell := (HB.out.cell (World.block_lt_of_cell? w _ hcell)).trans hcell
                    have HR1 := HR.out
                    rw [List.drop_eq_getElem_cons hlt, show x.f1[i] = rd x.f1 (i : Int) from by simp [rd, List.getD_eq_getElem?_getD, List.getElem?_eq_getElem hlt]] at HR1
                    have HW := Aside0.mk (HX1.out.2 (x.f1[i]) (List.getElem_mem hlt))
                    rw [show x.f1[i] = rd x.f1 (i : Int) from by simp [rd, List.getD_eq_getElem?_getD, List.getElem?_eq_getElem hlt]] at HW
                    simp only [termsGo] at HR1
                    generalize rd x.f1 (i : Int) = t at *
                    have HR2 := Aside0.mk HR1
                    clear HR1 HR
                    have ht1 : -9223372036854775808 ≤ t := HW.out.1
                    have ht2 : t ≤ 9223372036854775807 := HW.out.2
                    have hwt : (Lit.int .i64 t).wf = true := WalkArith.wf_i64 (by omega)
                    by_cases h3 : 2 ≤ t ∧ t ≤ (l0_0.length : Int) - 1
                    · have HWI : Aside0 (grammar_within.f t 2 ((l0_0.length : Int) - 1) = some true) := ⟨by unfold grammar_within.f; rw [if_pos (by omega)]; simp [h3.2]⟩
                      have HA0 := Aside0.mk (HD.out t)
                      cases hmt : met t with
                      | true =>
                        have HAT : Aside0 (D.atKey (.int .i64 t) (.lit (.int .i64 0)) = .lit (.int .i64 1)) := ⟨by rw [HA0.out, hmt]; rfl⟩
                        obtain rfl : r = 24 := by have := HR2.out; rw [if_neg (by simp [hmt])] at this; exact this.symm
                        clear hmt
                        go_wp2_with (first | (go_at_call 29; refine (grammar_within.calls _ _ _ true _ HWI.out).mono ?_; rintro e w' ⟨rfl, ⟨nd, rfl⟩⟩) | (at_lookup; refine gate_guard (by rfl) ?_; dsimp only; refine wpList_lookup_own_int _ rfl _ _ 51 rfl 3 3 .i64 law_int Tryd.underlying51 Tryd.underlying3 (zero_int _) wo.heap.size m _ rfl (owns_drewN HO.out nd) _ _ rfl (keyOf_int_mk Tryd.underlying3 hwt) ?_; intro c hat hwc; obtain rfl := lit_int_inj HAT.out hat; clear hat))
                        go_ret
                        exact ⟨rfl, pw_below_drewN HB.out _⟩
                      | false =>
                        have HAT : Aside0 (D.atKey (.int .i64 t) (.lit (.int .i64 0)) = .lit (.int .i64 0)) := ⟨by rw [HA0.out, hmt]; rfl⟩
                        have HR3 := HR2.out
                        rw [if_pos ⟨h3.1, h3.2, hmt⟩] at HR3
                        have HR4 := Aside0.mk HR3
                        have hml : m < maxLen := hm.out.lt hlt2 hT4 (by omega)
                        clear hmt HR3 HR2
                        go_wp2_with (first | (go_at_call 29; refine (grammar_within.calls _ _ _ true _ HWI.out).mono ?_; rintro e w' ⟨rfl, ⟨nd, rfl⟩⟩) | (at_lookup; refine gate_guard (by rfl) ?_; dsimp only; refine wpList_lookup_own_int _ rfl _ _ 51 rfl 3 3 .i64 law_int Tryd.underlying51 Tryd.underlying3 (zero_int _) wo.heap.size m _ rfl (owns_drewN HO.out nd) _ _ rfl (keyOf_int_mk Tryd.underlying3 hwt) ?_; intro c hat hwc; obtain rfl := lit_int_inj HAT.out hat; clear hat) | (at_mapUpdate; refine wpList_mapUpdate_own _ rfl _ _ _ 51 rfl 3 3 law_int Tryd.underlying51 _ wo.heap.size m _ rfl (owns_drewN HO.out _) hml _ _ _ rfl rfl (keyOf_int_mk Tryd.underlying3 hwt) _ [] (plainElem_int Tryd.underlying3 (WalkArith.wf_i64 (by omega))) ?_; intro w8 hown1 hgrow1))
                        have R1 := Aside0.mk hown1
                        have hwo : w.heap.size < wo.heap.size := hsz
                        have R2 := Aside0.mk ((pw_below_drewN HB.out _).grown hgrow1 HB.out.size (fun j hj => by cases hj; exact Nat.le_of_lt hwo))
                        have R3 := Aside0.mk (GB.grown (w := wr.drewN _) BK.out hgrow1 (by simpa using Nat.ne_of_lt hwo))
                        clear hown1 hgrow1 hcell hcz0 hcz1 hcz2 hcz3 hcz4
                        go_wp2_with fail
                        go_roundw
                        case rel => exact ⟨i + 1, m + 1, _, by omega, by go_num, ⟨hm.out.step⟩, ⟨_, R1, ⟨HD.out.put HO.out.isMap t⟩⟩, HR4, R3, R2⟩
                        case measure => simp [intOf]; omega
                    · have HWI : Aside0 (grammar_within.f t 2 ((l0_0.length : Int) - 1) = some false) := ⟨within_no h3⟩
                      obtain rfl : r = 24 := by have := HR2.out; rw [if_neg (fun z => h3 ⟨z.1, z.2.1⟩)] at this; exact this.symm
                      go_wp2_with (go_at_call 29; refine (grammar_within.calls _ _ _ false _ HWI.out).mono ?_; rintro e w' ⟨rfl, ⟨nd, rfl⟩⟩)
                      go_ret
                      exact ⟨rfl, pw_below_drewN HB.out _⟩
                  · have hie : i = x.f1.length := by omega
                    have HR1 := HR.out
                    rw [hie, List.drop_of_length_le (Nat.le_refl _)] at HR1
                    simp only [termsGo] at HR1
                    have HR4 := Aside0.mk HR1
                    have hn2 : Aside0 (Cap m (j + 1) 0) := ⟨hm.out.next (by omega)⟩
                    clear HR1 HR hie
                    go_wp2_with fail
                    go_roundw
                    case rel => exact ⟨j + 1, m, met, by omega, by go_num, hn2, ⟨D, HO, HD⟩, HR4, BK, HB⟩
                    case measure => simp [intOf]; omega
              · obtain rfl : r = 24 := by have := HR2.out; rw [if_neg (fun z => h2 z.2)] at this; exact this.symm
                have q1 : decide (x.f0 < 1) = false := decide_eq_false (by omega)
                have q2 : decide (4 < x.f0) = true := decide_eq_true (by omega)
                go_wp2_with fail
                go_ret
                exact ⟨rfl, below_alloc HB.out _⟩
            · obtain rfl : r = 24 := by have := HR2.out; rw [if_neg (fun z => h1 z.1)] at this; exact this.symm
              have q1 : decide (x.f0 < 1) = true := decide_eq_true (by omega)
              go_wp2_with fail
              go_ret
              exact ⟨rfl, below_alloc HB.out _⟩
          · have hje : j = l0_4.length := by omega
            obtain rfl : r = 0 := by have := HR.out; rw [hje, List.drop_of_length_le (Nat.le_refl _)] at this; simpa [levelsGo] using this.symm
            go_wp2_with fail
            go_ret
            exact ⟨rfl, HB.out⟩
end Go.Proofs.YtgchidlombijbaaDoor.H
end
section
namespace Go.Proofs.YtgchidlombijbaaDoor.H
open Go.RowKit Go.Proofs.YtgchidlombijbaaDoorW.PrintWords Go.Proofs.YtgchidlombijbaaDoorW.PrintLast Go.Proofs.YtgchidlombijbaaDoorW.PrintMore
attribute [local go_sem] max2_int min2_int max_two min_two max_three min_three max_four min_four
set_option linter.unusedVariables false
set_option linter.unusedSimpArgs false
mutual
def arboristref15_Few.j1 : Nat → Int → Int → List ByteArray → List ByteArray → List Int → List (S43) → List (S46) → Option (Bool)
  | 0, _, _, _, _, _, _, _ => none
  | k + 1, x1, x5, x152000, x152001, x152002, x152003, x152004 => arboristref15_Few.l1 k x1 x5 0 x152000 x152001 x152002 x152003 x152004
def arboristref15_Few.l1 : Nat → Int → Int → Int → List ByteArray → List ByteArray → List Int → List (S43) → List (S46) → Option (Bool)
  | 0, _, _, _, _, _, _, _, _ => none
  | k + 1, x1, x5, x7, x152000, x152001, x152002, x152003, x152004 => if x7 < (x152004.length : Int) then (if x7 < 50 then (if 0 ≤ x7 then (arboristref15_Few.l1 k x1 (wrap64 (x5 + (((rd_T46 x152004 x7).f1).length : Int))) (wrap64 (x7 + 1)) x152000 x152001 x152002 x152003 x152004) else (none)) else (if (x152003.length : Int) ≤ x1 then (if (x152000.length : Int) ≤ 60 then (if (x152001.length : Int) ≤ 60 then (if (x152002.length : Int) ≤ 60 then (if (x152004.length : Int) ≤ 40 then (some (decide (x5 ≤ (wrap64 ((wrap64 (8 * x1)) + 40))))) else (some false)) else (some false)) else (some false)) else (some false)) else (some false))) else (if (x152003.length : Int) ≤ x1 then (if (x152000.length : Int) ≤ 60 then (if (x152001.length : Int) ≤ 60 then (if (x152002.length : Int) ≤ 60 then (if (x152004.length : Int) ≤ 40 then (some (decide (x5 ≤ (wrap64 ((wrap64 (8 * x1)) + 40))))) else (some false)) else (some false)) else (some false)) else (some false)) else (some false))
def arboristref15_Few.l0 : Nat → Int → Int → Int → List ByteArray → List ByteArray → List Int → List (S43) → List (S46) → Option (Bool)
  | 0, _, _, _, _, _, _, _, _ => none
  | k + 1, x1, x5, x6, x152000, x152001, x152002, x152003, x152004 => if x6 < (x152003.length : Int) then (if x6 ≤ x1 then (if 0 ≤ x6 then (arboristref15_Few.l0 k x1 (wrap64 (x5 + (wrap64 ((((rd_T43 x152003 x6).f1).length : Int) + (((rd_T43 x152003 x6).f2).length : Int))))) (wrap64 (x6 + 1)) x152000 x152001 x152002 x152003 x152004) else (none)) else (arboristref15_Few.j1 k x1 x5 x152000 x152001 x152002 x152003 x152004)) else (arboristref15_Few.j1 k x1 x5 x152000 x152001 x152002 x152003 x152004)
end
def arboristref15_Few.f (k : Nat) (l0_0 : List ByteArray) (l0_1 : List ByteArray) (l0_2 : List Int) (l0_3 : List (S43)) (l0_4 : List (S46)) (a1 : Int) : Option (Bool) := arboristref15_Few.l0 k a1 0 0 l0_0 l0_1 l0_2 l0_3 l0_4
theorem arboristref15_Few.mono_l : ∀ k, (∀ y0 y1 y2 y3 y4 y5 y6, LeO (arboristref15_Few.j1 k y0 y1 y2 y3 y4 y5 y6) (arboristref15_Few.j1 (k + 1) y0 y1 y2 y3 y4 y5 y6)) ∧ (∀ y0 y1 y2 y3 y4 y5 y6 y7, LeO (arboristref15_Few.l1 k y0 y1 y2 y3 y4 y5 y6 y7) (arboristref15_Few.l1 (k + 1) y0 y1 y2 y3 y4 y5 y6 y7)) ∧ (∀ y0 y1 y2 y3 y4 y5 y6 y7, LeO (arboristref15_Few.l0 k y0 y1 y2 y3 y4 y5 y6 y7) (arboristref15_Few.l0 (k + 1) y0 y1 y2 y3 y4 y5 y6 y7))
  | 0 => ⟨fun _ _ _ _ _ _ _ r h => by simp [arboristref15_Few.j1] at h, fun _ _ _ _ _ _ _ _ r h => by simp [arboristref15_Few.l1] at h, fun _ _ _ _ _ _ _ _ r h => by simp [arboristref15_Few.l0] at h⟩
  | k + 1 => by
    obtain ⟨ih0, ih1, ih2⟩ := arboristref15_Few.mono_l k
    refine ⟨?_, ?_, ?_⟩
    · intro y0 y1 y2 y3 y4 y5 y6
      unfold arboristref15_Few.j1
      repeat' first
      | (with_reducible exact ih0 _ _ _ _ _ _ _)
      | (with_reducible exact ih1 _ _ _ _ _ _ _ _)
      | (with_reducible exact ih2 _ _ _ _ _ _ _ _)
      | (with_reducible exact LeO.refl _)
      | (with_reducible exact LeO.none _)
      | (with_reducible refine LeO.ite ?_ ?_)
      | (with_reducible refine LeO.bind ?_ (fun _ => ?_))
      | exact ih0 _ _ _ _ _ _ _
      | exact ih1 _ _ _ _ _ _ _ _
      | exact ih2 _ _ _ _ _ _ _ _
      | exact LeO.none _
      | refine LeO.ite ?_ ?_
      | refine LeO.bind ?_ (fun _ => ?_)
    · intro y0 y1 y2 y3 y4 y5 y6 y7
      unfold arboristref15_Few.l1
      repeat' first
      | (with_reducible exact ih0 _ _ _ _ _ _ _)
      | (with_reducible exact ih1 _ _ _ _ _ _ _ _)
      | (with_reducible exact ih2 _ _ _ _ _ _ _ _)
      | (with_reducible exact LeO.refl _)
      | (with_reducible exact LeO.none _)
      | (with_reducible refine LeO.ite ?_ ?_)
      | (with_reducible refine LeO.bind ?_ (fun _ => ?_))
      | exact ih0 _ _ _ _ _ _ _
      | exact ih1 _ _ _ _ _ _ _ _
      | exact ih2 _ _ _ _ _ _ _ _
      | exact LeO.none _
      | refine LeO.ite ?_ ?_
      | refine LeO.bind ?_ (fun _ => ?_)
    · intro y0 y1 y2 y3 y4 y5 y6 y7
      unfold arboristref15_Few.l0
      repeat' first
      | (with_reducible exact ih0 _ _ _ _ _ _ _)
      | (with_reducible exact ih1 _ _ _ _ _ _ _ _)
      | (with_reducible exact ih2 _ _ _ _ _ _ _ _)
      | (with_reducible exact LeO.refl _)
      | (with_reducible exact LeO.none _)
      | (with_reducible refine LeO.ite ?_ ?_)
      | (with_reducible refine LeO.bind ?_ (fun _ => ?_))
      | exact ih0 _ _ _ _ _ _ _
      | exact ih1 _ _ _ _ _ _ _ _
      | exact ih2 _ _ _ _ _ _ _ _
      | exact LeO.none _
      | refine LeO.ite ?_ ?_
      | refine LeO.bind ?_ (fun _ => ?_)
theorem arboristref15_Few.mono : ∀ a0 a1 a2 a3 a4 a5 k, LeO (arboristref15_Few.f k a0 a1 a2 a3 a4 a5) (arboristref15_Few.f (k + 1) a0 a1 a2 a3 a4 a5) := by
  intro a0 a1 a2 a3 a4 a5 k
  obtain ⟨ih0, ih1, ih2⟩ := arboristref15_Few.mono_l k
  unfold arboristref15_Few.f
  repeat' first
      | (with_reducible exact ih0 _ _ _ _ _ _ _)
      | (with_reducible exact ih1 _ _ _ _ _ _ _ _)
      | (with_reducible exact ih2 _ _ _ _ _ _ _ _)
      | (with_reducible exact LeO.refl _)
      | (with_reducible exact LeO.none _)
      | (with_reducible refine LeO.ite ?_ ?_)
      | (with_reducible refine LeO.bind ?_ (fun _ => ?_))
      | exact ih0 _ _ _ _ _ _ _
      | exact ih1 _ _ _ _ _ _ _ _
      | exact ih2 _ _ _ _ _ _ _ _
      | exact LeO.none _
      | refine LeO.ite ?_ ?_
      | refine LeO.bind ?_ (fun _ => ?_)
set_option maxHeartbeats 8000000 in
set_option maxRecDepth 100000 in
theorem arboristref15_Few.calls (k : Nat) (A0_0 : Option Addr) (c0_0 : Nat) (l0_0 : List ByteArray) (A0_1 : Option Addr) (c0_1 : Nat) (l0_1 : List ByteArray) (A0_2 : Option Addr) (c0_2 : Nat) (l0_2 : List Int) (A0_3 : Option Addr) (c0_3 : Nat) (l0_3 : List (S43)) (A0_4 : Option Addr) (c0_4 : Nat) (l0_4 : List (S46)) (a1 : Int) (r : Bool) (w : World) (hr0_0 : Kd.C Kd.string w A0_0 l0_0.length l0_0) (hc0_0 : l0_0.length ≤ c0_0) (hr0_1 : Kd.C Kd.string w A0_1 l0_1.length l0_1) (hc0_1 : l0_1.length ≤ c0_1) (hr0_2 : Kd.C (Kd.int .i64) w A0_2 l0_2.length l0_2) (hc0_2 : l0_2.length ≤ c0_2) (hr0_3 : Kd.C k43 w A0_3 l0_3.length l0_3) (hc0_3 : l0_3.length ≤ c0_3) (hr0_4 : Kd.C k46 w A0_4 l0_4.length l0_4) (hc0_4 : l0_4.length ≤ c0_4) (h : arboristref15_Few.f k l0_0 l0_1 l0_2 l0_3 l0_4 a1 = some r) :
    Calls Tryd.prog 7 #[.agg #[.slice A0_0 l0_0.length c0_0, .slice A0_1 l0_1.length c0_1, .slice A0_2 l0_2.length c0_2, .slice A0_3 l0_3.length c0_3, .slice A0_4 l0_4.length c0_4], .int .i64 a1] w fun e w' => e = .returned (.bool r) ∧ Below w.heap.size w w' := by
  have hu27 := Tryd.underlying27
  have HR0_0 := Aside0.mk hr0_0
  have HC0_0 := Aside0.mk hc0_0
  clear hr0_0 hc0_0
  have HR0_1 := Aside0.mk hr0_1
  have HC0_1 := Aside0.mk hc0_1
  clear hr0_1 hc0_1
  have HR0_2 := Aside0.mk hr0_2
  have HC0_2 := Aside0.mk hc0_2
  clear hr0_2 hc0_2
  have HR0_3 := Aside0.mk hr0_3
  have HC0_3 := Aside0.mk hc0_3
  clear hr0_3 hc0_3
  have HR0_4 := Aside0.mk hr0_4
  have HC0_4 := Aside0.mk hc0_4
  clear hr0_4 hc0_4
  have HB := Aside0.mk (Below.refl w.heap.size w)
  have H : (arboristref15_Few.l0 k a1 0 0 l0_0 l0_1 l0_2 l0_3 l0_4) = some r := h
  clear h
  have HC3 := Aside0.mk H
  clear H
  go_enter Tryd.func7, Tryd.ntmps7
  go_upto_block 0 with (first | ((with_reducible refine gate_dst (N := 2) rfl ?_); (try (refine gate_guard (by rfl) ?_; dsimp only)); refine box_event ?hg (N := 2) ?hd (cs := #[.slice A0_0 l0_0.length c0_0, .slice A0_1 l0_1.length c0_1, .slice A0_2 l0_2.length c0_2, .slice A0_3 l0_3.length c0_3, .slice A0_4 l0_4.length c0_4]) (t := 27) ?hr ?_; (case hd => rfl); (case hg => rfl); (case hr => first | (go_simp; done) | (go_simp; rfl)); intro gb151 hg w4 hbox hb; have n0_ := Aside0.mk (below_step (by repeat (first | (with_reducible first | exact HB.out | apply below_alloc | apply pw_below_drewN | apply below_drew1) | exact HB.out)) hb); have n1_ := Aside0.mk (hbox); have n2_ := Aside0.mk ((by rw [hg]; exact (below_size (by repeat (first | (with_reducible first | exact HB.out | apply below_alloc | apply pw_below_drewN | apply below_drew1) | exact HB.out))) : w.heap.size ≤ gb151)); have n3_ := Aside0.mk ((by rw [hg]; exact (below_size (by repeat (first | (with_reducible first | exact HB.out | apply below_alloc | apply pw_below_drewN | apply below_drew1) | exact HB.out))) : w.heap.size ≤ gb151)); clear HB; have HB := n0_; have BK151 := n1_; have GW151 := n2_; have GE151 := n3_; clear n0_ n1_ n2_ n3_; clear hb hbox hg))
  repeat (go_quiet (first | ((with_reducible refine gate_dst (N := 2) rfl ?_); (try (refine gate_guard (by rfl) ?_; dsimp only)); refine box_event ?hg (N := 2) ?hd (cs := #[.slice A0_0 l0_0.length c0_0, .slice A0_1 l0_1.length c0_1, .slice A0_2 l0_2.length c0_2, .slice A0_3 l0_3.length c0_3, .slice A0_4 l0_4.length c0_4]) (t := 27) ?hr ?_; (case hd => rfl); (case hg => rfl); (case hr => first | (go_simp; done) | (go_simp; rfl)); intro gb151 hg w4 hbox hb; have n0_ := Aside0.mk (below_step (by repeat (first | (with_reducible first | exact HB.out | apply below_alloc | apply pw_below_drewN | apply below_drew1) | exact HB.out)) hb); have n1_ := Aside0.mk (hbox); have n2_ := Aside0.mk ((by rw [hg]; exact (below_size (by repeat (first | (with_reducible first | exact HB.out | apply below_alloc | apply pw_below_drewN | apply below_drew1) | exact HB.out))) : w.heap.size ≤ gb151)); have n3_ := Aside0.mk ((by rw [hg]; exact (below_size (by repeat (first | (with_reducible first | exact HB.out | apply below_alloc | apply pw_below_drewN | apply below_drew1) | exact HB.out))) : w.heap.size ≤ gb151)); clear HB; have HB := n0_; have BK151 := n1_; have GW151 := n2_; have GE151 := n3_; clear n0_ n1_ n2_ n3_; clear hb hbox hg)); go_upto_block 0 with (first | ((with_reducible refine gate_dst (N := 2) rfl ?_); (try (refine gate_guard (by rfl) ?_; dsimp only)); refine box_event ?hg (N := 2) ?hd (cs := #[.slice A0_0 l0_0.length c0_0, .slice A0_1 l0_1.length c0_1, .slice A0_2 l0_2.length c0_2, .slice A0_3 l0_3.length c0_3, .slice A0_4 l0_4.length c0_4]) (t := 27) ?hr ?_; (case hd => rfl); (case hg => rfl); (case hr => first | (go_simp; done) | (go_simp; rfl)); intro gb151 hg w4 hbox hb; have n0_ := Aside0.mk (below_step (by repeat (first | (with_reducible first | exact HB.out | apply below_alloc | apply pw_below_drewN | apply below_drew1) | exact HB.out)) hb); have n1_ := Aside0.mk (hbox); have n2_ := Aside0.mk ((by rw [hg]; exact (below_size (by repeat (first | (with_reducible first | exact HB.out | apply below_alloc | apply pw_below_drewN | apply below_drew1) | exact HB.out))) : w.heap.size ≤ gb151)); have n3_ := Aside0.mk ((by rw [hg]; exact (below_size (by repeat (first | (with_reducible first | exact HB.out | apply below_alloc | apply pw_below_drewN | apply below_drew1) | exact HB.out))) : w.heap.size ≤ gb151)); clear HB; have HB := n0_; have BK151 := n1_; have GW151 := n2_; have GE151 := n3_; clear n0_ n1_ n2_ n3_; clear hb hbox hg)))
  (try simp only [Act.put, List.setIfInBounds_toArray, List.set_cons_zero, List.set_cons_succ])
  go_cut [5] (fun v5 wc => ∃ (kq : Nat) (x5_2 : Int), v5 = .int .i64 x5_2 ∧ Aside0 (arboristref15_Few.j1 kq a1 x5_2 l0_0 l0_1 l0_2 l0_3 l0_4 = some r) ∧ Aside0 (kq ≤ k) ∧ Aside0 (wc.heap[gb151]? = some (.cells #[(.slice A0_0 l0_0.length c0_0), (.slice A0_1 l0_1.length c0_1), (.slice A0_2 l0_2.length c0_2), (.slice A0_3 l0_3.length c0_3), (.slice A0_4 l0_4.length c0_4)] 27 (0, 0))) ∧ Aside0 (Below w.heap.size w wc))
  case first =>
    have H := HC3.out
    clear HC3
    have H' := Aside0.mk H
    clear H
    go_wp2
    repeat (go_quiet (fail); try go_wp2)
    go_loopg [5, 6] k (fun kq v5 v6 w' => ∃ (x5_1 : Int) (x6_1 : Int), v5 = .int .i64 x5_1 ∧ v6 = .int .i64 x6_1 ∧ Aside0 (arboristref15_Few.l0 kq a1 x5_1 x6_1 l0_0 l0_1 l0_2 l0_3 l0_4 = some r) ∧ Aside0 (kq ≤ k) ∧ Aside0 (w'.heap[gb151]? = some (.cells #[(.slice A0_0 l0_0.length c0_0), (.slice A0_1 l0_1.length c0_1), (.slice A0_2 l0_2.length c0_2), (.slice A0_3 l0_3.length c0_3), (.slice A0_4 l0_4.length c0_4)] 27 (0, 0))) ∧ Aside0 (Below w.heap.size w w'))
    case atStart => exact ⟨(0), (0), (by first | rfl | (simp; done) | (simp [*]; done)), (by first | rfl | (simp; done) | (simp [*]; done)), H', ⟨Nat.le_refl _⟩, ⟨by (with_reducible repeat (first | refine blk_drewN ?_ _ | refine blk_drew ?_ | refine blk_alloc ?_ _)); exact BK151.out⟩, ⟨by repeat (first | (with_reducible first | exact HB.out | apply below_alloc | apply pw_below_drewN | apply below_drew1 | refine below_set ?_ GE151.out) | exact HB.out)⟩⟩
    case round =>
      clear H'
      try clear p2
      obtain ⟨x5_1, x6_1, rfl, rfl, HA, HK1, BK151, HB⟩ := hrel
      cases gk with
      | zero => exact absurd HA.out (by simp [arboristref15_Few.l0])
      | succ k1 =>
        have H := HA.out
        clear HA
        simp only [arboristref15_Few.l0] at H
        by_cases c5 : x6_1 < (l0_3.length : Int)
        · rw [if_pos c5] at H
          have c5b0 : decide (x6_1 < (l0_3.length : Int)) = true := decide_eq_true c5
          clear c5
          (first | rw [c5b0] | (simp only [i64_w, i32_w]; rw [c5b0]) | skip)
          by_cases c6 : x6_1 ≤ a1
          · rw [if_pos c6] at H
            have c6b0 : decide (x6_1 ≤ a1) = true := decide_eq_true c6
            clear c6
            by_cases c7 : 0 ≤ x6_1
            · rw [if_pos c7] at H
              have c7b0 : decide (0 ≤ x6_1) = true := decide_eq_true c7
              clear c7
              have H' := Aside0.mk H
              clear H
              have hcz8_0 : wr.cell? ⟨gb151, 0, none⟩ = some (.slice A0_0 l0_0.length c0_0) := (blk_cell BK151.out 0).trans rfl
              have hcz8_1 : wr.cell? ⟨gb151, 1, none⟩ = some (.slice A0_1 l0_1.length c0_1) := (blk_cell BK151.out 1).trans rfl
              have hcz8_2 : wr.cell? ⟨gb151, 2, none⟩ = some (.slice A0_2 l0_2.length c0_2) := (blk_cell BK151.out 2).trans rfl
              have hcz8_3 : wr.cell? ⟨gb151, 3, none⟩ = some (.slice A0_3 l0_3.length c0_3) := (blk_cell BK151.out 3).trans rfl
              have hcz8_4 : wr.cell? ⟨gb151, 4, none⟩ = some (.slice A0_4 l0_4.length c0_4) := (blk_cell BK151.out 4).trans rfl
              have hfz8_0 := blk_frozen BK151.out 0
              have hfz8_1 := blk_frozen BK151.out 1
              have hfz8_2 := blk_frozen BK151.out 2
              have hfz8_3 := blk_frozen BK151.out 3
              have hfz8_4 := blk_frozen BK151.out 4
              have p152 : 0 ≤ (x6_1 : Int) := of_decide_eq_true (by first | (with_reducible assumption) | assumption)
              have q152 : x6_1 < (l0_3.length : Int) := of_decide_eq_true (by first | (with_reducible assumption) | assumption)
              obtain ⟨ad152, A152_1, c152_1, A152_2, c152_2, e152, hx152_0, hx152_1, hx152_2, hx152_3, hx152_4, hl152_1, hi152_1, hl152_2, hi152_2⟩ := at_T43 HR0_3.out x6_1 p152 q152
              cases e152
              replace hx152_0 := (HB.out.cell (World.block_lt_of_cell? w _ hx152_0)).trans hx152_0
              replace hx152_1 := (HB.out.cell (World.block_lt_of_cell? w _ hx152_1)).trans hx152_1
              replace hx152_2 := (HB.out.cell (World.block_lt_of_cell? w _ hx152_2)).trans hx152_2
              replace hx152_3 := (HB.out.cell (World.block_lt_of_cell? w _ hx152_3)).trans hx152_3
              replace hx152_4 := (HB.out.cell (World.block_lt_of_cell? w _ hx152_4)).trans hx152_4
              have HR152_1 := Aside0.mk hi152_1
              have HC152_1 := Aside0.mk hl152_1
              clear hi152_1 hl152_1
              have HR152_2 := Aside0.mk hi152_2
              have HC152_2 := Aside0.mk hl152_2
              clear hi152_2 hl152_2
              replace p152 := eq_true p152
              replace q152 := eq_true q152
              have p153 : 0 ≤ (x6_1 : Int) := of_decide_eq_true (by first | (with_reducible assumption) | assumption)
              have q153 : x6_1 < (l0_3.length : Int) := of_decide_eq_true (by first | (with_reducible assumption) | assumption)
              obtain ⟨ad153, A153_1, c153_1, A153_2, c153_2, e153, hx153_0, hx153_1, hx153_2, hx153_3, hx153_4, hl153_1, hi153_1, hl153_2, hi153_2⟩ := at_T43 HR0_3.out x6_1 p153 q153
              obtain rfl : ad152 = ad153 := (by injection e153)
              replace hx153_0 := (HB.out.cell (World.block_lt_of_cell? w _ hx153_0)).trans hx153_0
              replace hx153_1 := (HB.out.cell (World.block_lt_of_cell? w _ hx153_1)).trans hx153_1
              replace hx153_2 := (HB.out.cell (World.block_lt_of_cell? w _ hx153_2)).trans hx153_2
              replace hx153_3 := (HB.out.cell (World.block_lt_of_cell? w _ hx153_3)).trans hx153_3
              replace hx153_4 := (HB.out.cell (World.block_lt_of_cell? w _ hx153_4)).trans hx153_4
              have HR153_1 := Aside0.mk hi153_1
              have HC153_1 := Aside0.mk hl153_1
              clear hi153_1 hl153_1
              have HR153_2 := Aside0.mk hi153_2
              have HC153_2 := Aside0.mk hl153_2
              clear hi153_2 hl153_2
              replace p153 := eq_true p153
              replace q153 := eq_true q153
              have ea_ := Option.some.inj (hx152_1.symm.trans hx153_1)
              injection ea_ with ea_ en_ ec_
              subst ea_
              subst ec_
              clear en_
              have ea_ := Option.some.inj (hx152_2.symm.trans hx153_2)
              injection ea_ with ea_ en_ ec_
              subst ea_
              subst ec_
              clear en_
              go_wp2
              repeat (go_quiet (fail); try go_wp2)
              go_roundg k1
              case measure => have := HK1.out; omega
              case rel => exact ⟨(wrap64 (x5_1 + (wrap64 ((((rd_T43 l0_3 x6_1).f1).length : Int) + (((rd_T43 l0_3 x6_1).f2).length : Int))))), (wrap64 (x6_1 + 1)), (by first | rfl | (simp; done) | (simp [*]; done)), (by first | rfl | (simp; done) | (simp [*]; done)), H', ⟨by have := HK1.out; omega⟩, ⟨by (with_reducible repeat (first | refine blk_drewN ?_ _ | refine blk_drew ?_ | refine blk_alloc ?_ _)); exact BK151.out⟩, ⟨by repeat (first | (with_reducible first | exact HB.out | apply below_alloc | apply pw_below_drewN | apply below_drew1 | refine below_set ?_ GE151.out) | exact HB.out)⟩⟩
            · rw [if_neg c7] at H
              exact absurd H (by simp)
          · rw [if_neg c6] at H
            have c6b0 : decide (x6_1 ≤ a1) = false := decide_eq_false c6
            clear c6
            have H' := Aside0.mk H
            clear H
            have hcz9_0 : wr.cell? ⟨gb151, 0, none⟩ = some (.slice A0_0 l0_0.length c0_0) := (blk_cell BK151.out 0).trans rfl
            have hcz9_1 : wr.cell? ⟨gb151, 1, none⟩ = some (.slice A0_1 l0_1.length c0_1) := (blk_cell BK151.out 1).trans rfl
            have hcz9_2 : wr.cell? ⟨gb151, 2, none⟩ = some (.slice A0_2 l0_2.length c0_2) := (blk_cell BK151.out 2).trans rfl
            have hcz9_3 : wr.cell? ⟨gb151, 3, none⟩ = some (.slice A0_3 l0_3.length c0_3) := (blk_cell BK151.out 3).trans rfl
            have hcz9_4 : wr.cell? ⟨gb151, 4, none⟩ = some (.slice A0_4 l0_4.length c0_4) := (blk_cell BK151.out 4).trans rfl
            have hfz9_0 := blk_frozen BK151.out 0
            have hfz9_1 := blk_frozen BK151.out 1
            have hfz9_2 := blk_frozen BK151.out 2
            have hfz9_3 := blk_frozen BK151.out 3
            have hfz9_4 := blk_frozen BK151.out 4
            go_wp2
            repeat (go_quiet (fail); try go_wp2)
            go_meet
            case rel => exact ⟨_, (x5_1), (by first | rfl | (simp; done) | (simp [*]; done)), H', ⟨by have := HK1.out; first | omega | exact Nat.le_refl _⟩, ⟨by (with_reducible repeat (first | refine blk_drewN ?_ _ | refine blk_drew ?_ | refine blk_alloc ?_ _)); exact BK151.out⟩, ⟨by repeat (first | (with_reducible first | exact HB.out | apply below_alloc | apply pw_below_drewN | apply below_drew1 | refine below_set ?_ GE151.out) | exact HB.out)⟩⟩
        · rw [if_neg c5] at H
          have c5b0 : decide (x6_1 < (l0_3.length : Int)) = false := decide_eq_false c5
          clear c5
          (first | rw [c5b0] | (simp only [i64_w, i32_w]; rw [c5b0]) | skip)
          have H' := Aside0.mk H
          clear H
          have hcz10_0 : wr.cell? ⟨gb151, 0, none⟩ = some (.slice A0_0 l0_0.length c0_0) := (blk_cell BK151.out 0).trans rfl
          have hcz10_1 : wr.cell? ⟨gb151, 1, none⟩ = some (.slice A0_1 l0_1.length c0_1) := (blk_cell BK151.out 1).trans rfl
          have hcz10_2 : wr.cell? ⟨gb151, 2, none⟩ = some (.slice A0_2 l0_2.length c0_2) := (blk_cell BK151.out 2).trans rfl
          have hcz10_3 : wr.cell? ⟨gb151, 3, none⟩ = some (.slice A0_3 l0_3.length c0_3) := (blk_cell BK151.out 3).trans rfl
          have hcz10_4 : wr.cell? ⟨gb151, 4, none⟩ = some (.slice A0_4 l0_4.length c0_4) := (blk_cell BK151.out 4).trans rfl
          have hfz10_0 := blk_frozen BK151.out 0
          have hfz10_1 := blk_frozen BK151.out 1
          have hfz10_2 := blk_frozen BK151.out 2
          have hfz10_3 := blk_frozen BK151.out 3
          have hfz10_4 := blk_frozen BK151.out 4
          go_wp2
          repeat (go_quiet (fail); try go_wp2)
          go_meet
          case rel => exact ⟨_, (x5_1), (by first | rfl | (simp; done) | (simp [*]; done)), H', ⟨by have := HK1.out; first | omega | exact Nat.le_refl _⟩, ⟨by (with_reducible repeat (first | refine blk_drewN ?_ _ | refine blk_drew ?_ | refine blk_alloc ?_ _)); exact BK151.out⟩, ⟨by repeat (first | (with_reducible first | exact HB.out | apply below_alloc | apply pw_below_drewN | apply below_drew1 | refine below_set ?_ GE151.out) | exact HB.out)⟩⟩
  case rest =>
    clear HC3
    try clear c1
    try clear p1
    try clear q1
    try clear hx1
    try clear p2
    try clear c5
    try clear c5b0
    try clear c6
    try clear c6b0
    try clear p6
    try clear c7
    try clear c7b0
    try clear hcz10_0
    try clear hcz10_1
    try clear hcz10_2
    try clear hcz10_3
    try clear hcz10_4
    try clear hcz8_0
    try clear hcz8_1
    try clear hcz8_2
    try clear hcz8_3
    try clear hcz8_4
    try clear hcz9_0
    try clear hcz9_1
    try clear hcz9_2
    try clear hcz9_3
    try clear hcz9_4
    try clear hfz10_0
    try clear hfz10_1
    try clear hfz10_2
    try clear hfz10_3
    try clear hfz10_4
    try clear hfz8_0
    try clear hfz8_1
    try clear hfz8_2
    try clear hfz8_3
    try clear hfz8_4
    try clear hfz9_0
    try clear hfz9_1
    try clear hfz9_2
    try clear hfz9_3
    try clear hfz9_4
    try clear hx152_0
    try clear hx152_1
    try clear hx152_2
    try clear hx152_3
    try clear hx152_4
    try clear hx153_0
    try clear hx153_1
    try clear hx153_2
    try clear hx153_3
    try clear hx153_4
    try clear p152
    try clear p153
    try clear p2
    try clear q152
    try clear q153
    obtain ⟨kq, x5_2, rfl, HA, HJ2, BK151, HB⟩ := hcut
    cases kq with
    | zero => exact absurd HA.out (by simp [arboristref15_Few.j1])
    | succ kj2 =>
      have H := HA.out
      clear HA
      simp only [arboristref15_Few.j1] at H
      have H' := Aside0.mk H
      clear H
      go_wp2
      repeat (go_quiet (fail); try go_wp2)
      go_loopg [5, 7] kj2 (fun kq v5 v7 w' => ∃ (x5_2 : Int) (x7_2 : Int), v5 = .int .i64 x5_2 ∧ v7 = .int .i64 x7_2 ∧ Aside0 (arboristref15_Few.l1 kq a1 x5_2 x7_2 l0_0 l0_1 l0_2 l0_3 l0_4 = some r) ∧ Aside0 (kq ≤ kj2) ∧ Aside0 (w'.heap[gb151]? = some (.cells #[(.slice A0_0 l0_0.length c0_0), (.slice A0_1 l0_1.length c0_1), (.slice A0_2 l0_2.length c0_2), (.slice A0_3 l0_3.length c0_3), (.slice A0_4 l0_4.length c0_4)] 27 (0, 0))) ∧ Aside0 (Below w.heap.size w w'))
      case atStart => exact ⟨(x5_2), (0), (by first | rfl | (simp; done) | (simp [*]; done)), (by first | rfl | (simp; done) | (simp [*]; done)), H', ⟨Nat.le_refl _⟩, ⟨by (with_reducible repeat (first | refine blk_drewN ?_ _ | refine blk_drew ?_ | refine blk_alloc ?_ _)); exact BK151.out⟩, ⟨by repeat (first | (with_reducible first | exact HB.out | apply below_alloc | apply pw_below_drewN | apply below_drew1 | refine below_set ?_ GE151.out) | exact HB.out)⟩⟩
      case round =>
        clear H'
        try clear c1
        try clear p1
        try clear q1
        try clear hx1
        try clear p2
        try clear c5
        try clear c5b0
        try clear c6
        try clear c6b0
        try clear p6
        try clear c7
        try clear c7b0
        try clear hcz10_0
        try clear hcz10_1
        try clear hcz10_2
        try clear hcz10_3
        try clear hcz10_4
        try clear hcz8_0
        try clear hcz8_1
        try clear hcz8_2
        try clear hcz8_3
        try clear hcz8_4
        try clear hcz9_0
        try clear hcz9_1
        try clear hcz9_2
        try clear hcz9_3
        try clear hcz9_4
        try clear hfz10_0
        try clear hfz10_1
        try clear hfz10_2
        try clear hfz10_3
        try clear hfz10_4
        try clear hfz8_0
        try clear hfz8_1
        try clear hfz8_2
        try clear hfz8_3
        try clear hfz8_4
        try clear hfz9_0
        try clear hfz9_1
        try clear hfz9_2
        try clear hfz9_3
        try clear hfz9_4
        try clear hx152_0
        try clear hx152_1
        try clear hx152_2
        try clear hx152_3
        try clear hx152_4
        try clear hx153_0
        try clear hx153_1
        try clear hx153_2
        try clear hx153_3
        try clear hx153_4
        try clear p1
        try clear p152
        try clear p153
        try clear p2
        try clear p6
        try clear q1
        try clear q152
        try clear q153
        obtain ⟨x5_2, x7_2, rfl, rfl, HA, HK2, BK151, HB⟩ := hrel
        cases gk with
        | zero => exact absurd HA.out (by simp [arboristref15_Few.l1])
        | succ k2 =>
          have H := HA.out
          clear HA
          simp only [arboristref15_Few.l1] at H
          by_cases c11 : x7_2 < (l0_4.length : Int)
          · rw [if_pos c11] at H
            have c11b0 : decide (x7_2 < (l0_4.length : Int)) = true := decide_eq_true c11
            clear c11
            by_cases c12 : x7_2 < 50
            · rw [if_pos c12] at H
              have c12b0 : decide (x7_2 < 50) = true := decide_eq_true c12
              clear c12
              by_cases c13 : 0 ≤ x7_2
              · rw [if_pos c13] at H
                have c13b0 : decide (0 ≤ x7_2) = true := decide_eq_true c13
                clear c13
                have H' := Aside0.mk H
                clear H
                have hcz14_0 : wr.cell? ⟨gb151, 0, none⟩ = some (.slice A0_0 l0_0.length c0_0) := (blk_cell BK151.out 0).trans rfl
                have hcz14_1 : wr.cell? ⟨gb151, 1, none⟩ = some (.slice A0_1 l0_1.length c0_1) := (blk_cell BK151.out 1).trans rfl
                have hcz14_2 : wr.cell? ⟨gb151, 2, none⟩ = some (.slice A0_2 l0_2.length c0_2) := (blk_cell BK151.out 2).trans rfl
                have hcz14_3 : wr.cell? ⟨gb151, 3, none⟩ = some (.slice A0_3 l0_3.length c0_3) := (blk_cell BK151.out 3).trans rfl
                have hcz14_4 : wr.cell? ⟨gb151, 4, none⟩ = some (.slice A0_4 l0_4.length c0_4) := (blk_cell BK151.out 4).trans rfl
                have hfz14_0 := blk_frozen BK151.out 0
                have hfz14_1 := blk_frozen BK151.out 1
                have hfz14_2 := blk_frozen BK151.out 2
                have hfz14_3 := blk_frozen BK151.out 3
                have hfz14_4 := blk_frozen BK151.out 4
                have p154 : 0 ≤ (x7_2 : Int) := of_decide_eq_true (by first | (with_reducible assumption) | assumption)
                have q154 : x7_2 < (l0_4.length : Int) := of_decide_eq_true (by first | (with_reducible assumption) | assumption)
                obtain ⟨ad154, A154_1, c154_1, e154, hx154_0, hx154_1, hl154_1, hi154_1⟩ := at_T46 HR0_4.out x7_2 p154 q154
                cases e154
                replace hx154_0 := (HB.out.cell (World.block_lt_of_cell? w _ hx154_0)).trans hx154_0
                replace hx154_1 := (HB.out.cell (World.block_lt_of_cell? w _ hx154_1)).trans hx154_1
                have HR154_1 := Aside0.mk hi154_1
                have HC154_1 := Aside0.mk hl154_1
                clear hi154_1 hl154_1
                replace p154 := eq_true p154
                replace q154 := eq_true q154
                go_wp2
                repeat (go_quiet (fail); try go_wp2)
                go_roundg k2
                case measure => have := HJ2.out; have := HK2.out; omega
                case rel => exact ⟨(wrap64 (x5_2 + (((rd_T46 l0_4 x7_2).f1).length : Int))), (wrap64 (x7_2 + 1)), (by first | rfl | (simp; done) | (simp [*]; done)), (by first | rfl | (simp; done) | (simp [*]; done)), H', ⟨by have := HJ2.out; have := HK2.out; omega⟩, ⟨by (with_reducible repeat (first | refine blk_drewN ?_ _ | refine blk_drew ?_ | refine blk_alloc ?_ _)); exact BK151.out⟩, ⟨by repeat (first | (with_reducible first | exact HB.out | apply below_alloc | apply pw_below_drewN | apply below_drew1 | refine below_set ?_ GE151.out) | exact HB.out)⟩⟩
              · rw [if_neg c13] at H
                exact absurd H (by simp)
            · rw [if_neg c12] at H
              have c12b0 : decide (x7_2 < 50) = false := decide_eq_false c12
              clear c12
              by_cases c15 : (l0_3.length : Int) ≤ a1
              · rw [if_pos c15] at H
                have c15b0 : decide ((l0_3.length : Int) ≤ a1) = true := decide_eq_true c15
                clear c15
                by_cases c16 : (l0_0.length : Int) ≤ 60
                · rw [if_pos c16] at H
                  have c16b0 : decide ((l0_0.length : Int) ≤ 60) = true := decide_eq_true c16
                  have c16b1 : decide (l0_0.length ≤ 60) = true := decide_eq_true (by omega)
                  clear c16
                  by_cases c17 : (l0_1.length : Int) ≤ 60
                  · rw [if_pos c17] at H
                    have c17b0 : decide ((l0_1.length : Int) ≤ 60) = true := decide_eq_true c17
                    have c17b1 : decide (l0_1.length ≤ 60) = true := decide_eq_true (by omega)
                    clear c17
                    by_cases c18 : (l0_2.length : Int) ≤ 60
                    · rw [if_pos c18] at H
                      have c18b0 : decide ((l0_2.length : Int) ≤ 60) = true := decide_eq_true c18
                      have c18b1 : decide (l0_2.length ≤ 60) = true := decide_eq_true (by omega)
                      clear c18
                      by_cases c19 : (l0_4.length : Int) ≤ 40
                      · rw [if_pos c19] at H
                        have c19b0 : decide ((l0_4.length : Int) ≤ 40) = true := decide_eq_true c19
                        have c19b1 : decide (l0_4.length ≤ 40) = true := decide_eq_true (by omega)
                        clear c19
                        obtain rfl := Option.some.inj H
                        have hcz20_0 : wr.cell? ⟨gb151, 0, none⟩ = some (.slice A0_0 l0_0.length c0_0) := (blk_cell BK151.out 0).trans rfl
                        have hcz20_1 : wr.cell? ⟨gb151, 1, none⟩ = some (.slice A0_1 l0_1.length c0_1) := (blk_cell BK151.out 1).trans rfl
                        have hcz20_2 : wr.cell? ⟨gb151, 2, none⟩ = some (.slice A0_2 l0_2.length c0_2) := (blk_cell BK151.out 2).trans rfl
                        have hcz20_3 : wr.cell? ⟨gb151, 3, none⟩ = some (.slice A0_3 l0_3.length c0_3) := (blk_cell BK151.out 3).trans rfl
                        have hcz20_4 : wr.cell? ⟨gb151, 4, none⟩ = some (.slice A0_4 l0_4.length c0_4) := (blk_cell BK151.out 4).trans rfl
                        have hfz20_0 := blk_frozen BK151.out 0
                        have hfz20_1 := blk_frozen BK151.out 1
                        have hfz20_2 := blk_frozen BK151.out 2
                        have hfz20_3 := blk_frozen BK151.out 3
                        have hfz20_4 := blk_frozen BK151.out 4
                        go_wp2
                        repeat (go_quiet (fail); try go_wp2)
                        go_ret
                        exact ⟨by first | rfl | (simp [errW_none, errW_some] <;> rfl) | (simp [*, errW_none, errW_some] <;> rfl), by repeat (first | (with_reducible first | exact HB.out | apply below_alloc | apply pw_below_drewN | apply below_drew1 | refine below_set ?_ GE151.out) | exact HB.out)⟩
                      · rw [if_neg c19] at H
                        have c19b0 : decide ((l0_4.length : Int) ≤ 40) = false := decide_eq_false c19
                        have c19b1 : decide (l0_4.length ≤ 40) = false := decide_eq_false (by omega)
                        clear c19
                        obtain rfl := Option.some.inj H
                        have hcz21_0 : wr.cell? ⟨gb151, 0, none⟩ = some (.slice A0_0 l0_0.length c0_0) := (blk_cell BK151.out 0).trans rfl
                        have hcz21_1 : wr.cell? ⟨gb151, 1, none⟩ = some (.slice A0_1 l0_1.length c0_1) := (blk_cell BK151.out 1).trans rfl
                        have hcz21_2 : wr.cell? ⟨gb151, 2, none⟩ = some (.slice A0_2 l0_2.length c0_2) := (blk_cell BK151.out 2).trans rfl
                        have hcz21_3 : wr.cell? ⟨gb151, 3, none⟩ = some (.slice A0_3 l0_3.length c0_3) := (blk_cell BK151.out 3).trans rfl
                        have hcz21_4 : wr.cell? ⟨gb151, 4, none⟩ = some (.slice A0_4 l0_4.length c0_4) := (blk_cell BK151.out 4).trans rfl
                        have hfz21_0 := blk_frozen BK151.out 0
                        have hfz21_1 := blk_frozen BK151.out 1
                        have hfz21_2 := blk_frozen BK151.out 2
                        have hfz21_3 := blk_frozen BK151.out 3
                        have hfz21_4 := blk_frozen BK151.out 4
                        go_wp2
                        repeat (go_quiet (fail); try go_wp2)
                        go_ret
                        exact ⟨by first | rfl | (simp [errW_none, errW_some] <;> rfl) | (simp [*, errW_none, errW_some] <;> rfl), by repeat (first | (with_reducible first | exact HB.out | apply below_alloc | apply pw_below_drewN | apply below_drew1 | refine below_set ?_ GE151.out) | exact HB.out)⟩
                    · rw [if_neg c18] at H
                      have c18b0 : decide ((l0_2.length : Int) ≤ 60) = false := decide_eq_false c18
                      have c18b1 : decide (l0_2.length ≤ 60) = false := decide_eq_false (by omega)
                      clear c18
                      obtain rfl := Option.some.inj H
                      have hcz22_0 : wr.cell? ⟨gb151, 0, none⟩ = some (.slice A0_0 l0_0.length c0_0) := (blk_cell BK151.out 0).trans rfl
                      have hcz22_1 : wr.cell? ⟨gb151, 1, none⟩ = some (.slice A0_1 l0_1.length c0_1) := (blk_cell BK151.out 1).trans rfl
                      have hcz22_2 : wr.cell? ⟨gb151, 2, none⟩ = some (.slice A0_2 l0_2.length c0_2) := (blk_cell BK151.out 2).trans rfl
                      have hcz22_3 : wr.cell? ⟨gb151, 3, none⟩ = some (.slice A0_3 l0_3.length c0_3) := (blk_cell BK151.out 3).trans rfl
                      have hcz22_4 : wr.cell? ⟨gb151, 4, none⟩ = some (.slice A0_4 l0_4.length c0_4) := (blk_cell BK151.out 4).trans rfl
                      have hfz22_0 := blk_frozen BK151.out 0
                      have hfz22_1 := blk_frozen BK151.out 1
                      have hfz22_2 := blk_frozen BK151.out 2
                      have hfz22_3 := blk_frozen BK151.out 3
                      have hfz22_4 := blk_frozen BK151.out 4
                      go_wp2
                      repeat (go_quiet (fail); try go_wp2)
                      go_ret
                      exact ⟨by first | rfl | (simp [errW_none, errW_some] <;> rfl) | (simp [*, errW_none, errW_some] <;> rfl), by repeat (first | (with_reducible first | exact HB.out | apply below_alloc | apply pw_below_drewN | apply below_drew1 | refine below_set ?_ GE151.out) | exact HB.out)⟩
                  · rw [if_neg c17] at H
                    have c17b0 : decide ((l0_1.length : Int) ≤ 60) = false := decide_eq_false c17
                    have c17b1 : decide (l0_1.length ≤ 60) = false := decide_eq_false (by omega)
                    clear c17
                    obtain rfl := Option.some.inj H
                    have hcz23_0 : wr.cell? ⟨gb151, 0, none⟩ = some (.slice A0_0 l0_0.length c0_0) := (blk_cell BK151.out 0).trans rfl
                    have hcz23_1 : wr.cell? ⟨gb151, 1, none⟩ = some (.slice A0_1 l0_1.length c0_1) := (blk_cell BK151.out 1).trans rfl
                    have hcz23_2 : wr.cell? ⟨gb151, 2, none⟩ = some (.slice A0_2 l0_2.length c0_2) := (blk_cell BK151.out 2).trans rfl
                    have hcz23_3 : wr.cell? ⟨gb151, 3, none⟩ = some (.slice A0_3 l0_3.length c0_3) := (blk_cell BK151.out 3).trans rfl
                    have hcz23_4 : wr.cell? ⟨gb151, 4, none⟩ = some (.slice A0_4 l0_4.length c0_4) := (blk_cell BK151.out 4).trans rfl
                    have hfz23_0 := blk_frozen BK151.out 0
                    have hfz23_1 := blk_frozen BK151.out 1
                    have hfz23_2 := blk_frozen BK151.out 2
                    have hfz23_3 := blk_frozen BK151.out 3
                    have hfz23_4 := blk_frozen BK151.out 4
                    go_wp2
                    repeat (go_quiet (fail); try go_wp2)
                    go_ret
                    exact ⟨by first | rfl | (simp [errW_none, errW_some] <;> rfl) | (simp [*, errW_none, errW_some] <;> rfl), by repeat (first | (with_reducible first | exact HB.out | apply below_alloc | apply pw_below_drewN | apply below_drew1 | refine below_set ?_ GE151.out) | exact HB.out)⟩
                · rw [if_neg c16] at H
                  have c16b0 : decide ((l0_0.length : Int) ≤ 60) = false := decide_eq_false c16
                  have c16b1 : decide (l0_0.length ≤ 60) = false := decide_eq_false (by omega)
                  clear c16
                  obtain rfl := Option.some.inj H
                  have hcz24_0 : wr.cell? ⟨gb151, 0, none⟩ = some (.slice A0_0 l0_0.length c0_0) := (blk_cell BK151.out 0).trans rfl
                  have hcz24_1 : wr.cell? ⟨gb151, 1, none⟩ = some (.slice A0_1 l0_1.length c0_1) := (blk_cell BK151.out 1).trans rfl
                  have hcz24_2 : wr.cell? ⟨gb151, 2, none⟩ = some (.slice A0_2 l0_2.length c0_2) := (blk_cell BK151.out 2).trans rfl
                  have hcz24_3 : wr.cell? ⟨gb151, 3, none⟩ = some (.slice A0_3 l0_3.length c0_3) := (blk_cell BK151.out 3).trans rfl
                  have hcz24_4 : wr.cell? ⟨gb151, 4, none⟩ = some (.slice A0_4 l0_4.length c0_4) := (blk_cell BK151.out 4).trans rfl
                  have hfz24_0 := blk_frozen BK151.out 0
                  have hfz24_1 := blk_frozen BK151.out 1
                  have hfz24_2 := blk_frozen BK151.out 2
                  have hfz24_3 := blk_frozen BK151.out 3
                  have hfz24_4 := blk_frozen BK151.out 4
                  go_wp2
                  repeat (go_quiet (fail); try go_wp2)
                  go_ret
                  exact ⟨by first | rfl | (simp [errW_none, errW_some] <;> rfl) | (simp [*, errW_none, errW_some] <;> rfl), by repeat (first | (with_reducible first | exact HB.out | apply below_alloc | apply pw_below_drewN | apply below_drew1 | refine below_set ?_ GE151.out) | exact HB.out)⟩
              · rw [if_neg c15] at H
                have c15b0 : decide ((l0_3.length : Int) ≤ a1) = false := decide_eq_false c15
                clear c15
                obtain rfl := Option.some.inj H
                have hcz25_0 : wr.cell? ⟨gb151, 0, none⟩ = some (.slice A0_0 l0_0.length c0_0) := (blk_cell BK151.out 0).trans rfl
                have hcz25_1 : wr.cell? ⟨gb151, 1, none⟩ = some (.slice A0_1 l0_1.length c0_1) := (blk_cell BK151.out 1).trans rfl
                have hcz25_2 : wr.cell? ⟨gb151, 2, none⟩ = some (.slice A0_2 l0_2.length c0_2) := (blk_cell BK151.out 2).trans rfl
                have hcz25_3 : wr.cell? ⟨gb151, 3, none⟩ = some (.slice A0_3 l0_3.length c0_3) := (blk_cell BK151.out 3).trans rfl
                have hcz25_4 : wr.cell? ⟨gb151, 4, none⟩ = some (.slice A0_4 l0_4.length c0_4) := (blk_cell BK151.out 4).trans rfl
                have hfz25_0 := blk_frozen BK151.out 0
                have hfz25_1 := blk_frozen BK151.out 1
                have hfz25_2 := blk_frozen BK151.out 2
                have hfz25_3 := blk_frozen BK151.out 3
                have hfz25_4 := blk_frozen BK151.out 4
                go_wp2
                repeat (go_quiet (fail); try go_wp2)
                go_ret
                exact ⟨by first | rfl | (simp [errW_none, errW_some] <;> rfl) | (simp [*, errW_none, errW_some] <;> rfl), by repeat (first | (with_reducible first | exact HB.out | apply below_alloc | apply pw_below_drewN | apply below_drew1 | refine below_set ?_ GE151.out) | exact HB.out)⟩
          · rw [if_neg c11] at H
            have c11b0 : decide (x7_2 < (l0_4.length : Int)) = false := decide_eq_false c11
            clear c11
            by_cases c26 : (l0_3.length : Int) ≤ a1
            · rw [if_pos c26] at H
              have c26b0 : decide ((l0_3.length : Int) ≤ a1) = true := decide_eq_true c26
              clear c26
              by_cases c27 : (l0_0.length : Int) ≤ 60
              · rw [if_pos c27] at H
                have c27b0 : decide ((l0_0.length : Int) ≤ 60) = true := decide_eq_true c27
                have c27b1 : decide (l0_0.length ≤ 60) = true := decide_eq_true (by omega)
                clear c27
                by_cases c28 : (l0_1.length : Int) ≤ 60
                · rw [if_pos c28] at H
                  have c28b0 : decide ((l0_1.length : Int) ≤ 60) = true := decide_eq_true c28
                  have c28b1 : decide (l0_1.length ≤ 60) = true := decide_eq_true (by omega)
                  clear c28
                  by_cases c29 : (l0_2.length : Int) ≤ 60
                  · rw [if_pos c29] at H
                    have c29b0 : decide ((l0_2.length : Int) ≤ 60) = true := decide_eq_true c29
                    have c29b1 : decide (l0_2.length ≤ 60) = true := decide_eq_true (by omega)
                    clear c29
                    by_cases c30 : (l0_4.length : Int) ≤ 40
                    · rw [if_pos c30] at H
                      have c30b0 : decide ((l0_4.length : Int) ≤ 40) = true := decide_eq_true c30
                      have c30b1 : decide (l0_4.length ≤ 40) = true := decide_eq_true (by omega)
                      clear c30
                      obtain rfl := Option.some.inj H
                      have hcz31_0 : wr.cell? ⟨gb151, 0, none⟩ = some (.slice A0_0 l0_0.length c0_0) := (blk_cell BK151.out 0).trans rfl
                      have hcz31_1 : wr.cell? ⟨gb151, 1, none⟩ = some (.slice A0_1 l0_1.length c0_1) := (blk_cell BK151.out 1).trans rfl
                      have hcz31_2 : wr.cell? ⟨gb151, 2, none⟩ = some (.slice A0_2 l0_2.length c0_2) := (blk_cell BK151.out 2).trans rfl
                      have hcz31_3 : wr.cell? ⟨gb151, 3, none⟩ = some (.slice A0_3 l0_3.length c0_3) := (blk_cell BK151.out 3).trans rfl
                      have hcz31_4 : wr.cell? ⟨gb151, 4, none⟩ = some (.slice A0_4 l0_4.length c0_4) := (blk_cell BK151.out 4).trans rfl
                      have hfz31_0 := blk_frozen BK151.out 0
                      have hfz31_1 := blk_frozen BK151.out 1
                      have hfz31_2 := blk_frozen BK151.out 2
                      have hfz31_3 := blk_frozen BK151.out 3
                      have hfz31_4 := blk_frozen BK151.out 4
                      go_wp2
                      repeat (go_quiet (fail); try go_wp2)
                      go_ret
                      exact ⟨by first | rfl | (simp [errW_none, errW_some] <;> rfl) | (simp [*, errW_none, errW_some] <;> rfl), by repeat (first | (with_reducible first | exact HB.out | apply below_alloc | apply pw_below_drewN | apply below_drew1 | refine below_set ?_ GE151.out) | exact HB.out)⟩
                    · rw [if_neg c30] at H
                      have c30b0 : decide ((l0_4.length : Int) ≤ 40) = false := decide_eq_false c30
                      have c30b1 : decide (l0_4.length ≤ 40) = false := decide_eq_false (by omega)
                      clear c30
                      obtain rfl := Option.some.inj H
                      have hcz32_0 : wr.cell? ⟨gb151, 0, none⟩ = some (.slice A0_0 l0_0.length c0_0) := (blk_cell BK151.out 0).trans rfl
                      have hcz32_1 : wr.cell? ⟨gb151, 1, none⟩ = some (.slice A0_1 l0_1.length c0_1) := (blk_cell BK151.out 1).trans rfl
                      have hcz32_2 : wr.cell? ⟨gb151, 2, none⟩ = some (.slice A0_2 l0_2.length c0_2) := (blk_cell BK151.out 2).trans rfl
                      have hcz32_3 : wr.cell? ⟨gb151, 3, none⟩ = some (.slice A0_3 l0_3.length c0_3) := (blk_cell BK151.out 3).trans rfl
                      have hcz32_4 : wr.cell? ⟨gb151, 4, none⟩ = some (.slice A0_4 l0_4.length c0_4) := (blk_cell BK151.out 4).trans rfl
                      have hfz32_0 := blk_frozen BK151.out 0
                      have hfz32_1 := blk_frozen BK151.out 1
                      have hfz32_2 := blk_frozen BK151.out 2
                      have hfz32_3 := blk_frozen BK151.out 3
                      have hfz32_4 := blk_frozen BK151.out 4
                      go_wp2
                      repeat (go_quiet (fail); try go_wp2)
                      go_ret
                      exact ⟨by first | rfl | (simp [errW_none, errW_some] <;> rfl) | (simp [*, errW_none, errW_some] <;> rfl), by repeat (first | (with_reducible first | exact HB.out | apply below_alloc | apply pw_below_drewN | apply below_drew1 | refine below_set ?_ GE151.out) | exact HB.out)⟩
                  · rw [if_neg c29] at H
                    have c29b0 : decide ((l0_2.length : Int) ≤ 60) = false := decide_eq_false c29
                    have c29b1 : decide (l0_2.length ≤ 60) = false := decide_eq_false (by omega)
                    clear c29
                    obtain rfl := Option.some.inj H
                    have hcz33_0 : wr.cell? ⟨gb151, 0, none⟩ = some (.slice A0_0 l0_0.length c0_0) := (blk_cell BK151.out 0).trans rfl
                    have hcz33_1 : wr.cell? ⟨gb151, 1, none⟩ = some (.slice A0_1 l0_1.length c0_1) := (blk_cell BK151.out 1).trans rfl
                    have hcz33_2 : wr.cell? ⟨gb151, 2, none⟩ = some (.slice A0_2 l0_2.length c0_2) := (blk_cell BK151.out 2).trans rfl
                    have hcz33_3 : wr.cell? ⟨gb151, 3, none⟩ = some (.slice A0_3 l0_3.length c0_3) := (blk_cell BK151.out 3).trans rfl
                    have hcz33_4 : wr.cell? ⟨gb151, 4, none⟩ = some (.slice A0_4 l0_4.length c0_4) := (blk_cell BK151.out 4).trans rfl
                    have hfz33_0 := blk_frozen BK151.out 0
                    have hfz33_1 := blk_frozen BK151.out 1
                    have hfz33_2 := blk_frozen BK151.out 2
                    have hfz33_3 := blk_frozen BK151.out 3
                    have hfz33_4 := blk_frozen BK151.out 4
                    go_wp2
                    repeat (go_quiet (fail); try go_wp2)
                    go_ret
                    exact ⟨by first | rfl | (simp [errW_none, errW_some] <;> rfl) | (simp [*, errW_none, errW_some] <;> rfl), by repeat (first | (with_reducible first | exact HB.out | apply below_alloc | apply pw_below_drewN | apply below_drew1 | refine below_set ?_ GE151.out) | exact HB.out)⟩
                · rw [if_neg c28] at H
                  have c28b0 : decide ((l0_1.length : Int) ≤ 60) = false := decide_eq_false c28
                  have c28b1 : decide (l0_1.length ≤ 60) = false := decide_eq_false (by omega)
                  clear c28
                  obtain rfl := Option.some.inj H
                  have hcz34_0 : wr.cell? ⟨gb151, 0, none⟩ = some (.slice A0_0 l0_0.length c0_0) := (blk_cell BK151.out 0).trans rfl
                  have hcz34_1 : wr.cell? ⟨gb151, 1, none⟩ = some (.slice A0_1 l0_1.length c0_1) := (blk_cell BK151.out 1).trans rfl
                  have hcz34_2 : wr.cell? ⟨gb151, 2, none⟩ = some (.slice A0_2 l0_2.length c0_2) := (blk_cell BK151.out 2).trans rfl
                  have hcz34_3 : wr.cell? ⟨gb151, 3, none⟩ = some (.slice A0_3 l0_3.length c0_3) := (blk_cell BK151.out 3).trans rfl
                  have hcz34_4 : wr.cell? ⟨gb151, 4, none⟩ = some (.slice A0_4 l0_4.length c0_4) := (blk_cell BK151.out 4).trans rfl
                  have hfz34_0 := blk_frozen BK151.out 0
                  have hfz34_1 := blk_frozen BK151.out 1
                  have hfz34_2 := blk_frozen BK151.out 2
                  have hfz34_3 := blk_frozen BK151.out 3
                  have hfz34_4 := blk_frozen BK151.out 4
                  go_wp2
                  repeat (go_quiet (fail); try go_wp2)
                  go_ret
                  exact ⟨by first | rfl | (simp [errW_none, errW_some] <;> rfl) | (simp [*, errW_none, errW_some] <;> rfl), by repeat (first | (with_reducible first | exact HB.out | apply below_alloc | apply pw_below_drewN | apply below_drew1 | refine below_set ?_ GE151.out) | exact HB.out)⟩
              · rw [if_neg c27] at H
                have c27b0 : decide ((l0_0.length : Int) ≤ 60) = false := decide_eq_false c27
                have c27b1 : decide (l0_0.length ≤ 60) = false := decide_eq_false (by omega)
                clear c27
                obtain rfl := Option.some.inj H
                have hcz35_0 : wr.cell? ⟨gb151, 0, none⟩ = some (.slice A0_0 l0_0.length c0_0) := (blk_cell BK151.out 0).trans rfl
                have hcz35_1 : wr.cell? ⟨gb151, 1, none⟩ = some (.slice A0_1 l0_1.length c0_1) := (blk_cell BK151.out 1).trans rfl
                have hcz35_2 : wr.cell? ⟨gb151, 2, none⟩ = some (.slice A0_2 l0_2.length c0_2) := (blk_cell BK151.out 2).trans rfl
                have hcz35_3 : wr.cell? ⟨gb151, 3, none⟩ = some (.slice A0_3 l0_3.length c0_3) := (blk_cell BK151.out 3).trans rfl
                have hcz35_4 : wr.cell? ⟨gb151, 4, none⟩ = some (.slice A0_4 l0_4.length c0_4) := (blk_cell BK151.out 4).trans rfl
                have hfz35_0 := blk_frozen BK151.out 0
                have hfz35_1 := blk_frozen BK151.out 1
                have hfz35_2 := blk_frozen BK151.out 2
                have hfz35_3 := blk_frozen BK151.out 3
                have hfz35_4 := blk_frozen BK151.out 4
                go_wp2
                repeat (go_quiet (fail); try go_wp2)
                go_ret
                exact ⟨by first | rfl | (simp [errW_none, errW_some] <;> rfl) | (simp [*, errW_none, errW_some] <;> rfl), by repeat (first | (with_reducible first | exact HB.out | apply below_alloc | apply pw_below_drewN | apply below_drew1 | refine below_set ?_ GE151.out) | exact HB.out)⟩
            · rw [if_neg c26] at H
              have c26b0 : decide ((l0_3.length : Int) ≤ a1) = false := decide_eq_false c26
              clear c26
              obtain rfl := Option.some.inj H
              have hcz36_0 : wr.cell? ⟨gb151, 0, none⟩ = some (.slice A0_0 l0_0.length c0_0) := (blk_cell BK151.out 0).trans rfl
              have hcz36_1 : wr.cell? ⟨gb151, 1, none⟩ = some (.slice A0_1 l0_1.length c0_1) := (blk_cell BK151.out 1).trans rfl
              have hcz36_2 : wr.cell? ⟨gb151, 2, none⟩ = some (.slice A0_2 l0_2.length c0_2) := (blk_cell BK151.out 2).trans rfl
              have hcz36_3 : wr.cell? ⟨gb151, 3, none⟩ = some (.slice A0_3 l0_3.length c0_3) := (blk_cell BK151.out 3).trans rfl
              have hcz36_4 : wr.cell? ⟨gb151, 4, none⟩ = some (.slice A0_4 l0_4.length c0_4) := (blk_cell BK151.out 4).trans rfl
              have hfz36_0 := blk_frozen BK151.out 0
              have hfz36_1 := blk_frozen BK151.out 1
              have hfz36_2 := blk_frozen BK151.out 2
              have hfz36_3 := blk_frozen BK151.out 3
              have hfz36_4 := blk_frozen BK151.out 4
              go_wp2
              repeat (go_quiet (fail); try go_wp2)
              go_ret
              exact ⟨by first | rfl | (simp [errW_none, errW_some] <;> rfl) | (simp [*, errW_none, errW_some] <;> rfl), by repeat (first | (with_reducible first | exact HB.out | apply below_alloc | apply pw_below_drewN | apply below_drew1 | refine below_set ?_ GE151.out) | exact HB.out)⟩
end Go.Proofs.YtgchidlombijbaaDoor.H
end
