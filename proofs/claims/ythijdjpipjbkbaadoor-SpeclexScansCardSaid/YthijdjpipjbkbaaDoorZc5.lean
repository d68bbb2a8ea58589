/- For every text that the guards let in, SpeclexScans returns true: Scan returns the tokens of the reference, or the same first error. -/
import Derived.Stop.FmtQuoteTie
import Derived.Lib.MapLaws
import Derived.Lib.IndexLaws
import Derived.WalkMore
import Derived.Deep.LoopGhost
import Derived.Test.YthijdjpipjbkbaaDoorRows
import Derived.Test.YthijdjpipjbkbaaDoorTie
import Derived.Test.YthijdjpipjbkbaaDoorCards
import Derived.Deep.DeepHandedRow
import Derived.ProofKit
import Derived.SizedLaws
import Derived.OpenShut
import Derived.ShutString
import Derived.ChangeOld
import Derived.Below
import Derived.SevenTiedAt
import Derived.WalkKit
import Derived.Stop.LaidErr
import Derived.Test.YthijdjpipjbkbaaDoorZc4
section
namespace Go.Proofs.YthijdjpipjbkbaaDoor.H
open Go.RowKit Go.Proofs.YthijdjpipjbkbaaDoorW.PrintWords Go.Proofs.YthijdjpipjbkbaaDoorW.PrintLast Go.Proofs.YthijdjpipjbkbaaDoorW.PrintMore
set_option linter.unusedVariables false
set_option linter.unusedSimpArgs false
theorem Ends.ite' {α : Type} {c : Prop} {d : Decidable c} {f g : Nat → Option α} {v : α} (h1 : c → Ends f v) (h2 : ¬ c → Ends g v) : Ends (fun k => @ite _ c d (f k) (g k)) v := by
  by_cases h : c
  · exact Ends.pos h (h1 h)
  · exact Ends.neg h (h2 h)
def digB (c : Nat) : Bool := 48 ≤ c && c ≤ 57
section
set_option maxRecDepth 100000
theorem letterR (c : Nat) (h : c < 256) : arboristref11_letter.f (c : Int) = some (letB c) := by
  have H : ∀ c : Fin 256, arboristref11_letter.f ((c : Nat) : Int) = some (letB c) := by decide
  exact H ⟨c, h⟩
theorem digitR (c : Nat) (h : c < 256) : arboristref11_digit.f (c : Int) = some (digB c) := by
  have H : ∀ c : Fin 256, arboristref11_digit.f ((c : Nat) : Int) = some (digB c) := by decide
  exact H ⟨c, h⟩
end
theorem wsum (a b : Nat) (h : a + b ≤ 4294967296) : wrap64 ((a : Int) + (b : Int)) = ((a + b : Nat) : Int) := (congrArg wrap64 (by push_cast; rfl)).trans (wrap_nat (a + b) h)
theorem ext_list (s : ByteArray) (i : Nat) : (s.extract i s.size).data.toList = s.data.toList.drop i := by
  rw [ByteArray.data_extract, Array.toList_extract, List.extract_eq_take_drop]
  exact List.take_of_length_le (by rw [List.length_drop, Array.length_toList]; exact Nat.le_refl _)
theorem ext_size (s : ByteArray) (i : Nat) (h : i ≤ s.size) : (s.extract i s.size).size = s.size - i := by simp
theorem byte_cons (s : ByteArray) (i : Nat) (h : i < s.size) : ∃ c : UInt8, s.data.toList.drop i = c :: s.data.toList.drop (i + 1) ∧ c.toNat = byteAt s i := by
  refine ⟨s[i]'h, byte_drop s i h, ?_⟩
  unfold byteAt bt
  rw [dif_pos (by simpa using h)]; rfl
theorem byte_ext (s : ByteArray) (i j : Nat) (h : i + j < s.size) : byteAt (s.extract i s.size) j = byteAt s (i + j) := by
  have h2 : j < (s.extract i s.size).size := by rw [ext_size s i (by omega)]; omega
  obtain ⟨c, hc, hb⟩ := byte_cons _ j h2
  obtain ⟨d, hd, hb2⟩ := byte_cons _ (i + j) h
  rw [ext_list, List.drop_drop] at hc
  rw [hc] at hd
  injection hd with e
  rw [← hb, ← hb2, e]
theorem runLen_cons (c : UInt8) (l : List UInt8) : runLen (c :: l) = if wordB c.toNat then runLen l + 1 else 0 := by
  unfold runLen; rw [List.takeWhile_cons]; split <;> simp
theorem runLen_le (l : List UInt8) : runLen l ≤ l.length := by
  induction l with
  | nil => simp [runLen]
  | cons c l ih => rw [runLen_cons]; split <;> simp only [List.length_cons] <;> omega
theorem rrun_l0 (s : ByteArray) (hs : s.size ≤ 1000000) (a : Nat) : ∀ (d n : Nat), s.size ≤ a + n + d → a + n ≤ s.size → Ends (fun k => arboristref11_run.l0 k s (a : Int) (n : Int)) ((n + runLen (s.data.toList.drop (a + n)) : Nat) : Int) := by
  intro d
  induction d with
  | zero =>
    intro n h1 h2
    refine Ends.step (fun k => arboristref11_run.l0.eq_2 ..) ?_
    rw [wsum a n (by omega)]
    refine Ends.neg (by omega) ((Ends.const _).val ?_)
    rw [List.drop_of_length_le (by rw [Array.length_toList]; exact h1)]; simp [runLen]
  | succ d ih =>
    intro n h1 h2
    refine Ends.step (fun k => arboristref11_run.l0.eq_2 ..) ?_
    rw [wsum a n (by omega)]
    have hn : n ≤ 1000000 := by omega
    by_cases hlt : a + n < s.size
    · obtain ⟨hb, hb2⟩ := byteAt_bt s (a + n)
      obtain ⟨c, hc, hcb⟩ := byte_cons s (a + n) hlt
      have h3 := ih (n + 1) (by omega) (by omega)
      rw [← Nat.add_assoc] at h3
      refine Ends.pos (by omega) (Ends.pos (by omega) ?_)
      rw [hb, hc, runLen_cons, hcb]
      refine Ends.bind0 (letterR _ hb2) ?_
      rw [next_nat n (by omega)]
      cases hl : letB (byteAt s (a + n)) with
      | true =>
        refine Ends.pos rfl (h3.val ?_)
        rw [if_pos (by unfold wordB; rw [hl]; rfl)]; congr 1; omega
      | false =>
        refine Ends.neg (by simp) (Ends.bind0 (digitR _ hb2) ?_)
        cases hd : digB (byteAt s (a + n)) with
        | true =>
          refine Ends.pos rfl (h3.val ?_)
          rw [if_pos (by unfold wordB; rw [hl, Bool.false_or]; exact hd)]; congr 1; omega
        | false =>
          refine Ends.neg (by simp) ((Ends.const _).val ?_)
          rw [if_neg (by unfold wordB; rw [hl, Bool.false_or]; intro h; rw [show digB (byteAt s (a + n)) = true from h] at hd; cases hd)]; rfl
    · refine Ends.neg (by omega) ((Ends.const _).val ?_)
      rw [List.drop_of_length_le (by rw [Array.length_toList]; exact Nat.le_of_not_lt hlt)]; simp [runLen]
theorem rrun_ends (s : ByteArray) (hs : s.size ≤ 1000000) (a : Nat) (ha : a ≤ s.size) : Ends (fun k => arboristref11_run.f k s (a : Int)) (runLen (s.data.toList.drop a) : Int) := by
  have := rrun_l0 s hs a (s.size - a) 0 (by omega) (by omega)
  rw [Nat.zero_add, Nat.add_zero] at this
  exact this
theorem rword_l0 (x : ByteArray) (ws : List ByteArray) (hw : ws.length ≤ 1000) : ∀ (r : List ByteArray) (i : Nat), ws.drop i = r → i ≤ ws.length → Ends (fun k => arboristref11_Word.l0 k x ws (i : Int)) (r.any fun w => w.toList == x.toList) := by
  intro r
  induction r with
  | nil =>
    intro i hr hi
    have := drop_nil hr
    exact Ends.step (fun k => arboristref11_Word.l0.eq_2 ..) (Ends.neg (by omega) (Ends.const _))
  | cons w r ih =>
    intro i hr hi
    obtain ⟨hlt, hr2, hx⟩ := drop_cons hr
    have e1 : rdOf ByteArray.empty ws (i : Int) = w := by unfold rdOf; simpa using hx _
    refine Ends.step (fun k => arboristref11_Word.l0.eq_2 ..) (Ends.pos (by omega) (Ends.pos (by omega) ?_))
    rw [e1, next_nat i (by omega), List.any_cons]
    by_cases h : w.toList = x.toList
    · exact Ends.pos h ((Ends.const _).val (by rw [show (w.toList == x.toList) = true by simpa using h]; rfl))
    · exact Ends.neg h ((ih (i + 1) hr2 hlt).val (by rw [show (w.toList == x.toList) = false by simpa using h, Bool.false_or]))
theorem rword_ends (x : ByteArray) : Ends (fun k => arboristref11_Word.f k x) (wordsL.any fun w => w.toList == x.toList) := by
  unfold arboristref11_Word.f
  exact rword_l0 x wordsL (by decide) wordsL 0 rfl (by decide)
theorem rnum_l0 (x : ByteArray) (hx : x.size ≤ 1000000) (h0 : 0 < x.size) : ∀ (r : List UInt8) (i : Nat), x.data.toList.drop i = r → i ≤ x.size → Ends (fun k => arboristref11_number.l0 k x (i : Int)) ((r.all fun c => digB c.toNat) && (decide (x.size = 1) || decide (byteAt x 0 ≠ 48))) := by
  intro r
  have hl : x.data.toList.length = x.size := Array.length_toList
  induction r with
  | nil =>
    intro i hr hi
    have := drop_nil hr
    obtain ⟨hb, _⟩ := byteAt_bt x 0
    refine Ends.step (fun k => arboristref11_number.l0.eq_2 ..) (Ends.neg (by omega) ?_)
    by_cases h1 : x.size = 1
    · exact Ends.pos (by omega) ((Ends.const _).val (by simp [h1]))
    · refine Ends.neg (by omega) (Ends.pos (by omega) ((Ends.const _).val ?_))
      have e0 : bt x 0 = (byteAt x 0 : Int) := hb
      rw [e0, List.all_nil, Bool.true_and, decide_eq_false h1, Bool.false_or]
      by_cases h48 : byteAt x 0 = 48
      · rw [decide_eq_false (by simpa using h48)]; simp [h48]
      · rw [decide_eq_true h48]; simp; omega
  | cons c r ih =>
    intro i hr hi
    obtain ⟨hlt, hr2, _⟩ := drop_cons hr
    rw [hl] at hlt
    obtain ⟨hb, hb2⟩ := byteAt_bt x i
    obtain ⟨d, hd, hdb⟩ := byte_cons x i hlt
    rw [hr] at hd
    injection hd with e1 e2
    refine Ends.step (fun k => arboristref11_number.l0.eq_2 ..) (Ends.pos (by omega) (Ends.pos (by omega) ?_))
    rw [hb, next_nat i (by omega), List.all_cons, e1, hdb]
    refine Ends.bind0 (digitR _ hb2) ?_
    cases hdg : digB (byteAt x i) with
    | true => exact Ends.pos rfl ((ih (i + 1) hr2 hlt).val (by rw [Bool.true_and]))
    | false => exact Ends.neg (by simp) ((Ends.const _).val (by rw [Bool.false_and, Bool.false_and]))
theorem rnum_ends (x : ByteArray) (hx : x.size ≤ 1000000) (h0 : 0 < x.size) : Ends (fun k => arboristref11_number.f k x) ((x.data.toList.all fun c => digB c.toNat) && (decide (x.size = 1) || decide (byteAt x 0 ≠ 48))) :=
  rnum_l0 x hx h0 _ 0 rfl (by omega)
theorem bne10 (B : Nat) : (((B : Int) != 10) : Bool) = (B != 10 : Bool) := by
  by_cases q : B = 10
  · subst q; rfl
  · rw [show (B != 10 : Bool) = true by simpa using q]; simp; omega
theorem term_both (s : ByteArray) (hs : s.size ≤ 1000000) (i : Nat) (hi : i < s.size) : ∀ (d j : Nat), i + 1 + j ≤ s.size + 2 → s.size ≤ i + 1 + j + d →
    ∃ v : Option Nat, (∀ m, v = some m → j ≤ m ∧ i + 1 + m < s.size) ∧ Ends (fun k => speclex_term.l0 k (s.extract i s.size) false ((j + 1 : Nat) : Int)) (match v with | some m => ((m + 2 : Nat) : Int) | none => 0) ∧ Ends (fun k => arboristref11_term.l0 k s (i : Int) (j : Int)) (match v with | some m => (m : Int) | none => -1) := by
  have hts : (s.extract i s.size).size = s.size - i := ext_size s i (by omega)
  have w1 : ∀ j : Nat, j ≤ 4000000 → wrap64 (wrap64 ((i : Int) + 1) + (j : Int)) = ((i + 1 + j : Nat) : Int) := fun j h => by rw [next_nat i (by omega), wsum _ _ (by omega)]
  have out : ∀ j : Nat, s.size ≤ i + 1 + j → j ≤ 2000000 → Ends (fun k => speclex_term.l0 k (s.extract i s.size) false ((j + 1 : Nat) : Int)) 0 ∧ Ends (fun k => arboristref11_term.l0 k s (i : Int) (j : Int)) (-1) := fun j h hj => by
    constructor
    · exact Ends.step (fun k => speclex_term.l0.eq_2 ..) (Ends.neg (by rw [hts]; omega) (Ends.step (fun k => speclex_term.j1.eq_2 ..) (Ends.neg (by simp) (Ends.const _))))
    · refine Ends.step (fun k => arboristref11_term.l0.eq_2 ..) ?_
      rw [w1 j (by omega)]
      exact Ends.neg (by omega) (Ends.step (fun k => arboristref11_term.j1.eq_2 ..) (Ends.neg (by simp) (Ends.const _)))
  intro d
  induction d using Nat.strongRecOn with
  | ind d ih =>
    intro j hj h1
    by_cases hlt : i + 1 + j < s.size
    case neg => exact ⟨none, (fun m h => by cases h), out j (by omega) (by omega)⟩
    obtain ⟨hb, hb2⟩ := byteAt_bt s (i + 1 + j)
    have hbt : bt (s.extract i s.size) ((j + 1 : Nat) : Int) = (byteAt s (i + 1 + j) : Int) := by
      rw [(byteAt_bt _ (j + 1)).1, byte_ext s i (j + 1) (by omega), show i + (j + 1) = i + 1 + j by omega]
    obtain ⟨B, hB⟩ : ∃ B, byteAt s (i + 1 + j) = B := ⟨_, rfl⟩
    rw [hB] at hb hbt hb2
    have hjb : j + 1 ≤ 4294967295 := by omega
    have hjc : j ≤ 4294967295 := by omega
    have sp : ∀ {v : Int} (x : Bool), x = (B != 10 : Bool) → Ends (fun k => speclex_term.j1 k (s.extract i s.size) false ((j + 1 : Nat) : Int) x) v → Ends (fun k => speclex_term.l0 k (s.extract i s.size) false ((j + 1 : Nat) : Int)) v := fun x hx h => by
      refine Ends.step (fun k => speclex_term.l0.eq_2 ..) (Ends.pos (by rw [hts]; omega) (Ends.pos (by omega) ?_))
      rw [hbt, show (((B : Int) != 10) : Bool) = x by rw [hx]; exact bne10 B]
      exact h
    have sr : ∀ {v : Int} (x : Bool), x = (B != 10 : Bool) → Ends (fun k => arboristref11_term.j1 k s (i : Int) (j : Int) x) v → Ends (fun k => arboristref11_term.l0 k s (i : Int) (j : Int)) v := fun x hx h => by
      refine Ends.step (fun k => arboristref11_term.l0.eq_2 ..) ?_
      rw [w1 j (by omega), hb, show (((B : Int) != 10) : Bool) = x by rw [hx]; exact bne10 B]
      exact Ends.pos (by omega) (Ends.pos (by omega) h)
    by_cases h10 : B = 10
    · exact ⟨none, (fun m h => by cases h), sp false (by simp [h10]) (Ends.step (fun k => speclex_term.j1.eq_2 ..) (Ends.neg (by simp) (Ends.const _))), sr false (by simp [h10]) (Ends.step (fun k => arboristref11_term.j1.eq_2 ..) (Ends.neg (by simp) (Ends.const _)))⟩
    have hx10 : true = (B != 10 : Bool) := by symm; simpa using h10
    have sp2 : ∀ {v : Int}, Ends (fun k => if (B : Int) = 92 then speclex_term.l0 k (s.extract i s.size) true ((j + 1 + 1 : Nat) : Int) else if (B : Int) = 47 then some ((j + 1 + 1 : Nat) : Int) else speclex_term.l0 k (s.extract i s.size) false ((j + 1 + 1 : Nat) : Int)) v → Ends (fun k => speclex_term.l0 k (s.extract i s.size) false ((j + 1 : Nat) : Int)) v := fun h => by
      refine sp true hx10 (Ends.step (fun k => speclex_term.j1.eq_2 ..) (Ends.pos rfl (Ends.neg (by simp) (Ends.pos (by omega) (Ends.pos (by rw [hts]; omega) ?_)))))
      rw [hbt, show wrap64 (((j + 1 : Nat) : Int) + 1) = ((j + 1 + 1 : Nat) : Int) from next_nat (j + 1) hjb]
      exact h
    have sr2 : ∀ {v : Int}, Ends (fun k => if (B : Int) = 47 then some (j : Int) else if (B : Int) = 92 then (if ((i + 1 + (j + 1) : Nat) : Int) ≥ (s.size : Int) then some (-1) else if 0 ≤ ((i + 1 + (j + 1) : Nat) : Int) then (if ((i + 1 + (j + 1) : Nat) : Int) < (s.size : Int) then (if bt s ((i + 1 + (j + 1) : Nat) : Int) = 10 then some (-1) else arboristref11_term.l0 k s (i : Int) (wrap64 (((j + 1 : Nat) : Int) + 1))) else none) else none) else arboristref11_term.l0 k s (i : Int) ((j + 1 : Nat) : Int)) v → Ends (fun k => arboristref11_term.l0 k s (i : Int) (j : Int)) v := fun h => by
      refine sr true hx10 (Ends.step (fun k => arboristref11_term.j1.eq_2 ..) (Ends.pos rfl ?_))
      rw [w1 j (by omega), hb, show wrap64 ((j : Int) + 1) = ((j + 1 : Nat) : Int) from next_nat j hjc, w1 (j + 1) (by omega)]
      exact Ends.pos (by omega) (Ends.pos (by omega) h)
    by_cases h47 : B = 47
    · refine ⟨some j, (fun m h => by cases h; omega), sp2 (Ends.neg (by omega) (Ends.pos (by omega) (Ends.const _))), sr2 (Ends.pos (by omega) (Ends.const _))⟩
    by_cases h92 : B = 92
    · by_cases hq : i + 1 + (j + 1) < s.size
      · obtain ⟨hc, hc2⟩ := byteAt_bt s (i + 1 + (j + 1))
        have hct : bt (s.extract i s.size) ((j + 1 + 1 : Nat) : Int) = (byteAt s (i + 1 + (j + 1)) : Int) := by
          rw [(byteAt_bt _ (j + 1 + 1)).1, byte_ext s i (j + 1 + 1) (by omega), show i + (j + 1 + 1) = i + 1 + (j + 1) by omega]
        by_cases hc10 : byteAt s (i + 1 + (j + 1)) = 10
        · refine ⟨none, (fun m h => by cases h), sp2 (Ends.pos (by omega) ?_), sr2 (Ends.neg (by omega) (Ends.pos (by omega) (Ends.neg (by omega) (Ends.pos (by omega) (Ends.pos (by omega) (Ends.pos (by omega) (Ends.const _)))))))⟩
          refine Ends.step (fun k => speclex_term.l0.eq_2 ..) (Ends.pos (by rw [hts]; omega) (Ends.pos (by omega) ?_))
          rw [hct, hc10]
          exact Ends.step (fun k => speclex_term.j1.eq_2 ..) (Ends.neg (by simp) (Ends.const _))
        · obtain ⟨v, g1, g2, g3⟩ := ih (d - 2) (by omega) (j + 2) (by omega) (by omega)
          refine ⟨v, fun m h => by have := g1 m h; omega, sp2 (Ends.pos (by omega) ?_), sr2 (Ends.neg (by omega) (Ends.pos (by omega) (Ends.neg (by omega) (Ends.pos (by omega) (Ends.pos (by omega) (Ends.neg (by omega) ?_))))))⟩
          · refine Ends.step (fun k => speclex_term.l0.eq_2 ..) (Ends.pos (by rw [hts]; omega) (Ends.pos (by omega) ?_))
            rw [hct, show ((((byteAt s (i + 1 + (j + 1)) : Nat) : Int) != 10) : Bool) = true by simp; omega]
            refine Ends.step (fun k => speclex_term.j1.eq_2 ..) (Ends.pos rfl (Ends.pos rfl ?_))
            rw [show wrap64 (((j + 1 + 1 : Nat) : Int) + 1) = ((j + 2 + 1 : Nat) : Int) from next_nat (j + 1 + 1) (by omega)]
            exact g2
          · rw [show wrap64 (((j + 1 : Nat) : Int) + 1) = ((j + 2 : Nat) : Int) from next_nat (j + 1) (by omega)]
            exact g3
      · refine ⟨none, (fun m h => by cases h), sp2 (Ends.pos (by omega) ?_), sr2 (Ends.neg (by omega) (Ends.pos (by omega) (Ends.pos (by omega) (Ends.const _))))⟩
        exact Ends.step (fun k => speclex_term.l0.eq_2 ..) (Ends.neg (by rw [hts]; omega) (Ends.step (fun k => speclex_term.j1.eq_2 ..) (Ends.neg (by simp) (Ends.const _))))
    · obtain ⟨v, g1, g2, g3⟩ := ih (d - 1) (by omega) (j + 1) (by omega) (by omega)
      exact ⟨v, fun m h => by have := g1 m h; omega, sp2 (Ends.neg (by omega) (Ends.neg (by omega) g2)), sr2 (Ends.neg (by omega) (Ends.neg (by omega) g3))⟩
end Go.Proofs.YthijdjpipjbkbaaDoor.H
end
section
namespace Go.Proofs.YthijdjpipjbkbaaDoor.H
open Go.RowKit Go.Proofs.YthijdjpipjbkbaaDoorW.PrintWords Go.Proofs.YthijdjpipjbkbaaDoorW.PrintLast Go.Proofs.YthijdjpipjbkbaaDoorW.PrintMore
set_option linter.unusedVariables false
set_option linter.unusedSimpArgs false
theorem bt_ba {l : List UInt8} {i : Nat} {c : UInt8} {t : List UInt8} (h : l.drop i = c :: t) : i < (ba l).size ∧ bt (ba l) (i : Int) = (c.toNat : Int) := by
  obtain ⟨hi, _, hg⟩ := drop_cons h
  have hs : i < (ba l).size := by rw [ba_size]; exact hi
  refine ⟨hs, ?_⟩
  unfold bt
  rw [dif_pos (by simpa using hs)]
  have hl := List.getElem?_eq_getElem hi
  have : l[i] = c := by
    have h0 := hg 0
    rw [List.getD_eq_getElem?_getD, hl] at h0
    exact h0
  simp only [Int.toNat_natCast]
  rw [← this]
  rfl
theorem ba_drop (l : List UInt8) (i : Nat) : (ba l).extract i (ba l).size = ba (l.drop i) := by
  refine ba_ext ?_
  rw [ba_list, ba_size]
  simp only [ba, ByteArray.data_extract]
  simp
  exact List.take_of_length_le (by simp)
end Go.Proofs.YthijdjpipjbkbaaDoor.H
end
section
namespace Go.Proofs.YthijdjpipjbkbaaDoor.H
open Go.RowKit Go.Proofs.YthijdjpipjbkbaaDoorW.PrintWords Go.Proofs.YthijdjpipjbkbaaDoorW.PrintLast Go.Proofs.YthijdjpipjbkbaaDoorW.PrintMore
set_option linter.unusedVariables false
set_option linter.unusedSimpArgs false
theorem nums_back (l : List UInt8) : (Extern.FmtText.nums l).map (fun x => x.toNat.toUInt8) = l := by
  induction l with
  | nil => rfl
  | cons c r ih =>
    unfold Extern.FmtText.nums at ih ⊢
    rw [List.map_cons, List.map_cons, ih]
    congr 1
    simp [Nat.toUInt8]
theorem encode_list (r : Nat) : (Utf8.encode (r : Int)).data.toList = Lib.encodeRune (r : Int) := by
  unfold Lib.encodeRune
  rw [← Extern.FmtText.encode_eq r, nums_back]
theorem encode_ba (r : Nat) : Utf8.encode (r : Int) = ba (Lib.encodeRune (r : Int)) := ba_ext (by rw [encode_list, ba_list])
theorem ib_esc (c : UInt8) (n : Int) (h : Lib.indexByte [34, 92, 110, 114, 116] c = n) : strings_IndexByte.f (⟨#[34, 92, 110, 114, 116]⟩ : ByteArray) (c.toNat : Int) = some n := by
  unfold strings_IndexByte.f
  have e : ((c.toNat : Int)).toNat.toUInt8 = c := by simp [Nat.toUInt8]
  rw [e, ← h]
theorem esc_char (c : UInt8) (i : Nat) (t : List UInt8) (d : UInt8) (hi : i < 5) (h : Lib.indexByte [34, 92, 110, 114, 116] c = (i : Int)) (hd : (⟨#[34, 92, 10, 13, 9]⟩ : ByteArray).extract i (i + 1) = ba [d]) : Ends (fun k => text_escape.f k (ba (c :: t))) (ba [d], 1) := by
  obtain ⟨hs, hb⟩ := bt_ba (l := c :: t) (i := 0) rfl
  have hb' : bt (ba (c :: t)) 0 = (c.toNat : Int) := hb
  have n1 : i + 1 ≤ 4294967296 := by omega
  have i0 : (i : Int) ≥ 0 := by omega
  have i1 : (i : Int) ≤ ((i + 1 : Nat) : Int) := by omega
  have i2 : ((i + 1 : Nat) : Int) ≤ 5 := by omega
  have s0 : 0 < ((ba (c :: t)).size : Int) := by omega
  have ew : wrap64 ((i : Int) + 1) = ((i + 1 : Nat) : Int) := (congrArg wrap64 (by push_cast; rfl)).trans (wrap_nat _ n1)
  have EW := Aside0.mk ew
  clear ew
  unfold text_escape.f
  refine Ends.neg (by rw [ByteArray.toList_eq, ba_list]; simp) (Ends.pos s0 (Ends.bind0 (a := (i : Int)) (by rw [hb']; exact ib_esc c _ h) (Ends.pos i0 (Ends.pos i0 ?_))))
  simp only [EW.out, Int.toNat_natCast, hd]
  exact Ends.pos i1 (Ends.pos i2 (Ends.const _))
theorem valid_ends (r : Nat) (h : r < 55296 ∨ (57343 < r ∧ r ≤ 1114111)) : Ends (fun k => utf8_ValidRune.f k (r : Int)) true := by
  unfold utf8_ValidRune.f
  refine Ends.pos (by omega) (Ends.step (fun k => utf8_ValidRune.j0.eq_2 ..) ?_)
  by_cases q : (r : Int) < 55296
  · exact Ends.pos (by simpa using q) (Ends.const _)
  · exact Ends.neg (by simpa using q) (Ends.pos (by omega) (Ends.pos (by omega) (Ends.const _)))
end Go.Proofs.YthijdjpipjbkbaaDoor.H
end
section
namespace Go.Proofs.YthijdjpipjbkbaaDoor.H
open Go.RowKit Go.Proofs.YthijdjpipjbkbaaDoorW.PrintWords Go.Proofs.YthijdjpipjbkbaaDoorW.PrintLast Go.Proofs.YthijdjpipjbkbaaDoorW.PrintMore
set_option linter.unusedVariables false
set_option linter.unusedSimpArgs false
def Behind (R : List UInt8) : Prop := R = [] ∨ ∃ r, R = 10 :: r
theorem decodeN_line (n n' b0 b1 b2 b3 b1' b2' b3' : Nat) (h1 : (1 < n ∧ b1 / 64 = 2) ↔ (1 < n' ∧ b1' / 64 = 2)) (g1 : 1 < n → b1 = b1') (h2 : 1 < n → ((2 < n ∧ b2 / 64 = 2) ↔ (2 < n' ∧ b2' / 64 = 2))) (g2 : 2 < n → b2 = b2') (h3 : 2 < n → ((3 < n ∧ b3 / 64 = 2) ↔ (3 < n' ∧ b3' / 64 = 2))) (g3 : 3 < n → b3 = b3') :
    Lib.decodeN n b0 b1 b2 b3 = Lib.decodeN n' b0 b1' b2' b3' := by
  unfold Lib.decodeN
  by_cases c1 : 1 < n ∧ b1 / 64 = 2
  · obtain rfl := g1 c1.1
    have d1 := h1.1 c1
    by_cases c2 : 2 < n ∧ b2 / 64 = 2
    · obtain rfl := g2 c2.1
      have d2 := (h2 c1.1).1 c2
      by_cases c3 : 3 < n ∧ b3 / 64 = 2
      · obtain rfl := g3 c3.1
        have d3 := (h3 c2.1).1 c3
        simp only [c1, c2, c3, d1, d2, d3, and_true, true_and]
      · have d3 : ¬ (3 < n' ∧ b3' / 64 = 2) := fun q => c3 ((h3 c2.1).2 q)
        simp only [c1, c2, c3, d1, d2, d3, and_true, true_and, and_false, if_false]
    · have d2 : ¬ (2 < n' ∧ b2' / 64 = 2) := fun q => c2 ((h2 c1.1).2 q)
      simp only [c1, c2, d1, d2, and_true, true_and, and_false, false_and, if_false]
  · have d1 : ¬ (1 < n' ∧ b1' / 64 = 2) := fun q => c1 (h1.2 q)
    simp only [c1, d1, and_false, false_and, if_false]
theorem get_ba (l : List UInt8) (i : Nat) : (ba l).get! i = l.getD i 0 := by
  show l.toArray[i]! = _
  simp [List.getD_eq_getElem?_getD]
  rfl
theorem decode_line (T R : List UInt8) (hR : Behind R) (p : Nat) (hp : p < T.length) : Utf8.decode (ba (T ++ R)) p = Utf8.decode (ba T) p := by
  rw [Lib.decode_at, Lib.decode_at]
  simp only [get_ba, ba_size, List.length_append]
  have inn : ∀ i, i < T.length → (T ++ R).getD i 0 = T.getD i 0 := fun i hi => by
    simp [List.getD_eq_getElem?_getD, List.getElem?_append_left hi]
  have out : (T.length < (T ++ R).length → ((T ++ R).getD T.length 0).toNat / 64 ≠ 2) := fun h => by
    rcases hR with rfl | ⟨r, rfl⟩
    · simp at h
    · simp [List.getD_eq_getElem?_getD]
  have key : ∀ k, p + k ≤ T.length → ((k < T.length - p ∧ (T.getD (p + k) 0).toNat / 64 = 2) ↔ (k < T.length + R.length - p ∧ ((T ++ R).getD (p + k) 0).toNat / 64 = 2)) := fun k hk => by
    rcases Nat.lt_or_ge (p + k) T.length with q | q
    · rw [inn _ q]; exact ⟨fun h => ⟨by omega, h.2⟩, fun h => ⟨by omega, h.2⟩⟩
    · have e : p + k = T.length := by omega
      rw [e]
      exact ⟨fun h => by omega, fun h => absurd h.2 (out (by simp; omega))⟩
  have e0 := inn p hp
  rw [e0]
  symm
  refine decodeN_line _ _ _ _ _ _ _ _ _ (key 1 (by omega)) (fun h => by rw [inn _ (by omega)]) (fun h => key 2 (by omega)) (fun h => by rw [inn _ (by omega)]) (fun h => key 3 (by omega)) (fun h => by rw [inn _ (by omega)])
inductive BR where
  | un : BR
  | fo : BR
  | ok : Nat → Nat → BR
def BR.t : BR → Int × Int
  | .un => (0, -1)
  | .fo => (0, 0)
  | .ok n len => ((n : Int), (len : Int))
def BR.r : BR → Int × Int × Int
  | .un => (0, 0, 13)
  | .fo => (0, 0, 3)
  | .ok n len => ((n : Int), (len : Int), 0)
def BR.Fine (m : Nat) : BR → Prop
  | .ok n len => n < 16777216 ∧ 2 ≤ len ∧ len ≤ m ∧ len ≤ 8
  | _ => True
def digI (n : Nat) : Int := if 48 ≤ n ∧ n ≤ 57 then (n : Int) - 48 else if 97 ≤ n ∧ n ≤ 102 then (n : Int) - 87 else -1
theorem digI_lt (n : Nat) : -1 ≤ digI n ∧ digI n < 16 := by unfold digI; split; omega; split <;> omega
theorem ib_dig (c : UInt8) : strings_IndexByte.f (⟨#[48, 49, 50, 51, 52, 53, 54, 55, 56, 57, 97, 98, 99, 100, 101, 102]⟩ : ByteArray) (c.toNat : Int) = some (digI c.toNat) := by
  have H : ∀ n : Nat, n < 256 → Lib.indexByte [48, 49, 50, 51, 52, 53, 54, 55, 56, 57, 97, 98, 99, 100, 101, 102] ((n : Nat) : Int).toNat.toUInt8 = digI n := by decide +kernel
  unfold strings_IndexByte.f
  exact congrArg some (H c.toNat c.toNat_lt)
theorem digit_ends (n : Nat) (h : n < 256) : Ends (fun k => arboristref01_digit.f k (n : Int)) (digI n) := by
  unfold arboristref01_digit.f
  by_cases h1 : 48 ≤ n
  · refine Ends.pos (by omega) (Ends.step (fun k => arboristref01_digit.j0.eq_2 ..) ?_)
    by_cases h2 : n ≤ 57
    · refine Ends.pos (by simp; omega) ((Ends.const _).val ?_)
      unfold digI; rw [if_pos ⟨h1, h2⟩]; omega
    · refine Ends.neg (by simp; omega) ?_
      by_cases h3 : 97 ≤ n
      · refine Ends.pos (by omega) ?_
        by_cases h4 : n ≤ 102
        · refine Ends.pos (by omega) ((Ends.const _).val ?_)
          unfold digI; rw [if_neg (by omega), if_pos ⟨h3, h4⟩]; omega
        · refine Ends.neg (by omega) ((Ends.const _).val ?_)
          unfold digI; rw [if_neg (by omega), if_neg (by omega)]
      · refine Ends.neg (by omega) ((Ends.const _).val ?_)
        unfold digI; rw [if_neg (by omega), if_neg (by omega)]
  · refine Ends.neg (by omega) (Ends.step (fun k => arboristref01_digit.j0.eq_2 ..) (Ends.neg (by decide) (Ends.neg (by omega) ((Ends.const _).val ?_))))
    unfold digI; rw [if_neg (by omega), if_neg (by omega)]
theorem drop_app {T R : List UInt8} {i : Nat} {c : UInt8} {t : List UInt8} (h : T.drop i = c :: t) : (T ++ R).drop i = c :: (t ++ R) := by
  have hi := (drop_cons h).1
  rw [List.drop_append_of_le_length (by omega), h]
  rfl
theorem drop_end {T R : List UInt8} {i : Nat} (h : T.drop i = []) (hi : i ≤ T.length) : i = T.length ∧ (T ++ R).drop i = R := by
  have := drop_nil h
  have e : i = T.length := by omega
  subst e
  exact ⟨rfl, by simp⟩
theorem braced_fin (T R : List UInt8) (hT : ∀ c ∈ T, c ≠ 10) (hR : Behind R) (least : Nat) (hl : least ≤ 6) (n i : Nat) (hn : n < 16777216) (hi : i ≤ T.length) (h1 : 1 ≤ i) (h7 : i ≤ 7) :
    ∃ b : BR, b.Fine T.length ∧ Ends (fun k => text_braced.j2 k (ba T) (least : Int) (n : Int) (i : Int)) b.t ∧ Ends (fun k => arboristref01_braced.j1 k (ba (T ++ R)) (least : Int) (n : Int) (i : Int)) b.r := by
  have n1 : i + 1 ≤ 4294967296 := by omega
  have n2 : i - 1 ≤ 4294967296 := by omega
  have i0 : (0 : Int) ≤ (i : Int) := by omega
  rcases hd : T.drop i with _ | ⟨c, t⟩
  · obtain ⟨he, hd2⟩ := drop_end (R := R) hd hi
    refine ⟨.un, trivial, ?_, ?_⟩
    · refine Ends.step (fun k => text_braced.j2.eq_2 ..) (Ends.pos (by rw [ba_size, he]) (Ends.const _))
    · refine Ends.step (fun k => arboristref01_braced.j1.eq_2 ..) ?_
      rcases hR with rfl | ⟨r, rfl⟩
      · exact Ends.pos (by rw [ba_size, he]; simp) (Ends.const _)
      · obtain ⟨s1, s2⟩ := bt_ba hd2
        exact Ends.neg (by omega) (Ends.pos i0 (Ends.pos (by omega) (Ends.pos s2 (Ends.const _))))
  · obtain ⟨s1, s2⟩ := bt_ba hd
    obtain ⟨s3, s4⟩ := bt_ba (drop_app (R := R) hd)
    have hc : c ≠ 10 := hT c (by have : c ∈ T.drop i := by rw [hd]; exact List.mem_cons_self
                                 exact List.mem_of_mem_drop this)
    have hc' : ¬ (bt (ba (T ++ R)) (i : Int)) = 10 := by
      rw [s4]; intro q; apply hc; have : c.toNat = 10 := by omega
      exact UInt8.toNat_inj.1 this
    have a1 : ¬ (i : Int) = ((ba T).size : Int) := by omega
    have a2 : (i : Int) < ((ba T).size : Int) := by omega
    have a3 : ¬ (i : Int) = ((ba (T ++ R)).size : Int) := by omega
    have a4 : (i : Int) < ((ba (T ++ R)).size : Int) := by omega
    have a5 : i + 1 ≤ T.length := by rw [ba_size] at s1; omega
    by_cases h125 : c.toNat = 125
    · have b1 : bt (ba T) (i : Int) = 125 := by rw [s2]; omega
      have b2 : bt (ba (T ++ R)) (i : Int) = 125 := by rw [s4]; omega
      by_cases hle : i ≤ least
      · refine ⟨.fo, trivial, ?_, ?_⟩
        · exact Ends.step (fun k => text_braced.j2.eq_2 ..) (Ends.neg a1 (Ends.pos i0 (Ends.pos a2 (Ends.pos b1 (Ends.pos (by omega) (Ends.const _))))))
        · have hle2 : ((i - 1 : Nat) : Int) < (least : Int) := by omega
          have ew : wrap64 ((i : Int) - 1) = ((i - 1 : Nat) : Int) := (congrArg wrap64 (by omega)).trans (wrap_nat _ n2)
          exact Ends.step (fun k => arboristref01_braced.j1.eq_2 ..) (Ends.neg a3 (Ends.pos i0 (Ends.pos a4 (Ends.neg hc' (Ends.pos b2 (Ends.pos (by rw [ew]; exact hle2) (Ends.const _)))))))
      · refine ⟨.ok n (i + 1), ⟨hn, by omega, by omega, by omega⟩, ?_, ?_⟩
        · have hle1 : ¬ ((i : Int) ≤ (least : Int)) := by omega
          have ew : wrap64 ((i : Int) + 1) = ((i + 1 : Nat) : Int) := (congrArg wrap64 (by push_cast; rfl)).trans (wrap_nat _ n1)
          refine Ends.step (fun k => text_braced.j2.eq_2 ..) ?_
          rw [ew]
          exact Ends.neg a1 (Ends.pos i0 (Ends.pos a2 (Ends.pos b1 (Ends.neg hle1 (Ends.const _)))))
        · have hle2 : ¬ (((i - 1 : Nat) : Int) < (least : Int)) := by omega
          have ew : wrap64 ((i : Int) - 1) = ((i - 1 : Nat) : Int) := (congrArg wrap64 (by omega)).trans (wrap_nat _ n2)
          have ew2 : wrap64 ((i : Int) + 1) = ((i + 1 : Nat) : Int) := (congrArg wrap64 (by push_cast; rfl)).trans (wrap_nat _ n1)
          refine Ends.step (fun k => arboristref01_braced.j1.eq_2 ..) ?_
          rw [ew, ew2]
          exact Ends.neg a3 (Ends.pos i0 (Ends.pos a4 (Ends.neg hc' (Ends.pos b2 (Ends.neg hle2 (Ends.const _))))))
    · refine ⟨.fo, trivial, ?_, ?_⟩
      · exact Ends.step (fun k => text_braced.j2.eq_2 ..) (Ends.neg a1 (Ends.pos i0 (Ends.pos a2 (Ends.neg (by rw [s2]; omega) (Ends.const _)))))
      · exact Ends.step (fun k => arboristref01_braced.j1.eq_2 ..) (Ends.neg a3 (Ends.pos i0 (Ends.pos a4 (Ends.neg hc' (Ends.neg (by rw [s4]; omega) (Ends.const _))))))
theorem braced_go (T R : List UInt8) (hT : ∀ c ∈ T, c ≠ 10) (hR : Behind R) (least most : Nat) (hl : least ≤ 6) (hm : most ≤ 6) : ∀ (d n i : Nat), T.length ≤ i + d → i ≤ T.length → 1 ≤ i → i ≤ most + 1 → n < 16 ^ (i - 1) →
    ∃ b : BR, b.Fine T.length ∧ Ends (fun k => text_braced.l0 k (ba T) (least : Int) (most : Int) (n : Int) (i : Int)) b.t ∧ Ends (fun k => arboristref01_braced.l0 k (ba (T ++ R)) (least : Int) (most : Int) (n : Int) (i : Int)) b.r := by
  intro d
  induction d with
  | zero =>
    intro n i hd hi h1 h2 h3
    have hp6 : (16 : Nat) ^ (i - 1) ≤ 16 ^ 6 := Nat.pow_le_pow_right (by omega) (by omega)
    have h66 : (16 : Nat) ^ 6 = 16777216 := by decide
    have hn : n < 16777216 := by omega
    clear h3 hp6 h66
    obtain ⟨b, hf, ht, hr⟩ := braced_fin T R hT hR least hl n i hn hi h1 (by omega)
    refine ⟨b, hf, ?_, ?_⟩
    · exact Ends.step (fun k => text_braced.l0.eq_2 ..) (Ends.neg (by rw [ba_size]; omega) (Ends.step (fun k => text_braced.j1.eq_2 ..) (Ends.neg (by decide) ht)))
    · refine Ends.step (fun k => arboristref01_braced.l0.eq_2 ..) ?_
      obtain ⟨he, hd2⟩ := drop_end (R := R) (show T.drop i = [] from List.drop_of_length_le (by omega)) hi
      rcases hR with rfl | ⟨r, rfl⟩
      · exact Ends.neg (by rw [ba_size]; simp; omega) hr
      · obtain ⟨s1, s2⟩ := bt_ba hd2
        refine Ends.pos (by omega) ?_
        by_cases hle : i ≤ most
        · refine Ends.pos (by omega) (Ends.pos (by omega) ?_)
          rw [s2]
          exact Ends.bind (digit_ends 10 (by omega)) (Ends.neg (by decide) hr)
        · exact Ends.neg (by omega) hr
  | succ d ih =>
    intro n i hd hi h1 h2 h3
    have hp6 : (16 : Nat) ^ (i - 1) ≤ 16 ^ 6 := Nat.pow_le_pow_right (by omega) (by omega)
    have h66 : (16 : Nat) ^ 6 = 16777216 := by decide
    have hn : n < 16777216 := by omega
    have H3 := Aside0.mk h3
    clear h3 hp6 h66
    obtain ⟨b, hf, ht, hr⟩ := braced_fin T R hT hR least hl n i hn hi h1 (by omega)
    rcases hdr : T.drop i with _ | ⟨c, t⟩
    · obtain ⟨he, hd2⟩ := drop_end (R := R) hdr hi
      refine ⟨b, hf, ?_, ?_⟩
      · exact Ends.step (fun k => text_braced.l0.eq_2 ..) (Ends.neg (by rw [ba_size]; omega) (Ends.step (fun k => text_braced.j1.eq_2 ..) (Ends.neg (by decide) ht)))
      · refine Ends.step (fun k => arboristref01_braced.l0.eq_2 ..) ?_
        rcases hR with rfl | ⟨r, rfl⟩
        · exact Ends.neg (by rw [ba_size]; simp; omega) hr
        · obtain ⟨s1, s2⟩ := bt_ba hd2
          refine Ends.pos (by omega) ?_
          by_cases hle : i ≤ most
          · refine Ends.pos (by omega) (Ends.pos (by omega) ?_)
            rw [s2]
            exact Ends.bind (digit_ends 10 (by omega)) (Ends.neg (by decide) hr)
          · exact Ends.neg (by omega) hr
    · obtain ⟨s1, s2⟩ := bt_ba hdr
      obtain ⟨s3, s4⟩ := bt_ba (drop_app (R := R) hdr)
      have a2 : (i : Int) < ((ba T).size : Int) := by omega
      have a4 : (i : Int) < ((ba (T ++ R)).size : Int) := by omega
      have i0 : (0 : Int) ≤ (i : Int) := by omega
      have hiT : i + 1 ≤ T.length := by rw [ba_size] at s1; omega
      have hdI := digI_lt c.toNat
      by_cases hle : i ≤ most
      · have hle' : (i : Int) ≤ (most : Int) := by omega
        by_cases hdg : digI c.toNat < 0
        · refine ⟨b, hf, ?_, ?_⟩
          · refine Ends.step (fun k => text_braced.l0.eq_2 ..) (Ends.pos a2 (Ends.step (fun k => text_braced.j1.eq_2 ..) (Ends.pos (by simpa using hle') (Ends.pos i0 (Ends.pos a2 (Ends.bind0 (by rw [s2]; exact ib_dig c) (Ends.pos hdg ht)))))))
          · refine Ends.step (fun k => arboristref01_braced.l0.eq_2 ..) (Ends.pos a4 (Ends.pos hle' (Ends.pos i0 ?_)))
            rw [s4]
            exact Ends.bind (digit_ends c.toNat c.toNat_lt) (Ends.neg (by omega) hr)
        · obtain ⟨dv, hdv⟩ : ∃ dv : Nat, digI c.toNat = (dv : Int) := ⟨(digI c.toNat).toNat, by omega⟩
          have hdv16 : dv < 16 := by omega
          have n1 : 16 * n ≤ 4294967296 := by omega
          have n2 : 16 * n + dv ≤ 4294967296 := by omega
          have n3 : i + 1 ≤ 4294967296 := by omega
          have g0 : (dv : Int) ≥ 0 := by omega
          have g1 : ¬ ((dv : Int) < 0) := by omega
          obtain ⟨b', hf', ht', hr'⟩ := ih (16 * n + dv) (i + 1) (by omega) hiT (by omega) (by omega) (by
            have h4 := H3.out
            obtain ⟨j, rfl⟩ : ∃ j, i = j + 1 := ⟨i - 1, by omega⟩
            simp only [Nat.add_sub_cancel] at h4 ⊢
            rw [Nat.pow_succ]; omega)
          have DG := Aside0.mk hdv
          clear hdg hdI hdv
          have e1 : wrap64 (16 * (n : Int)) = ((16 * n : Nat) : Int) := (congrArg wrap64 (by push_cast; rfl)).trans (wrap_nat _ n1)
          have e2 : wrap64 (((16 * n : Nat) : Int) + (dv : Int)) = ((16 * n + dv : Nat) : Int) := (congrArg wrap64 (by push_cast; rfl)).trans (wrap_nat _ n2)
          have e3 : wrap64 ((i : Int) + 1) = ((i + 1 : Nat) : Int) := (congrArg wrap64 (by push_cast; rfl)).trans (wrap_nat _ n3)
          refine ⟨b', hf', ?_, ?_⟩
          · refine Ends.step (fun k => text_braced.l0.eq_2 ..) (Ends.pos a2 (Ends.step (fun k => text_braced.j1.eq_2 ..) (Ends.pos (by simpa using hle') (Ends.pos i0 (Ends.pos a2 (Ends.bind0 (a := (dv : Int)) (by rw [s2, ← DG.out]; exact ib_dig c) (Ends.neg g1 ?_)))))))
            rw [e1, e2, e3]
            exact ht'
          · refine Ends.step (fun k => arboristref01_braced.l0.eq_2 ..) (Ends.pos a4 (Ends.pos hle' (Ends.pos i0 ?_)))
            rw [s4]
            have hdE : Ends (fun k => arboristref01_digit.f k (c.toNat : Int)) (dv : Int) := (digit_ends c.toNat c.toNat_lt).val DG.out
            refine Ends.bind hdE (Ends.pos g0 (Ends.bind hdE ?_))
            rw [e1, e2, e3]
            exact hr'
      · refine ⟨b, hf, ?_, ?_⟩
        · exact Ends.step (fun k => text_braced.l0.eq_2 ..) (Ends.pos a2 (Ends.step (fun k => text_braced.j1.eq_2 ..) (Ends.neg (by simp; omega) ht)))
        · exact Ends.step (fun k => arboristref01_braced.l0.eq_2 ..) (Ends.pos a4 (Ends.neg (by omega) hr))
theorem braced_both (T R : List UInt8) (hT : ∀ c ∈ T, c ≠ 10) (hR : Behind R) (hTR : T ≠ [] ∨ R = []) (least most : Nat) (hl : least ≤ 6) (hm : most ≤ 6) :
    ∃ b : BR, b.Fine T.length ∧ Ends (fun k => text_braced.f k (ba T) (least : Int) (most : Int)) b.t ∧ Ends (fun k => arboristref01_braced.f k (ba (T ++ R)) (least : Int) (most : Int)) b.r := by
  unfold text_braced.f arboristref01_braced.f
  simp only [ByteArray.toList_eq, ba_list]
  rcases T with _ | ⟨c, t⟩
  · rcases hTR with h | rfl
    · exact absurd rfl h
    · exact ⟨.un, trivial, Ends.pos rfl (Ends.const _), Ends.pos rfl (Ends.const _)⟩
  · obtain ⟨s1, s2⟩ := bt_ba (l := c :: t) (i := 0) rfl
    obtain ⟨s3, s4⟩ := bt_ba (l := (c :: t) ++ R) (i := 0) rfl
    have t2 : bt (ba (c :: t)) 0 = (c.toNat : Int) := s2
    have t4 : bt (ba (c :: t ++ R)) 0 = (c.toNat : Int) := s4
    have a1 : 0 < ((ba (c :: t)).size : Int) := by omega
    have a2 : 0 < ((ba (c :: t ++ R)).size : Int) := by omega
    by_cases h : c.toNat = 123
    · obtain ⟨b, hf, ht, hr⟩ := braced_go (c :: t) R hT hR least most hl hm (c :: t).length 0 1 (by omega) (by simp) (by omega) (by omega) (by simp)
      exact ⟨b, hf, Ends.neg (by simp) (Ends.pos a1 (Ends.pos (by rw [t2]; omega) ht)), Ends.neg (by simp) (Ends.pos a2 (Ends.pos (by rw [t4]; omega) hr))⟩
    · exact ⟨.fo, trivial, Ends.neg (by simp) (Ends.pos a1 (Ends.neg (by rw [t2]; omega) (Ends.const _))), Ends.neg (by simp) (Ends.pos a2 (Ends.neg (by rw [t4]; omega) (Ends.const _)))⟩
end Go.Proofs.YthijdjpipjbkbaaDoor.H
end
section
namespace Go.Proofs.YthijdjpipjbkbaaDoor.H
open Go.RowKit Go.Proofs.YthijdjpipjbkbaaDoorW.PrintWords Go.Proofs.YthijdjpipjbkbaaDoorW.PrintLast Go.Proofs.YthijdjpipjbkbaaDoorW.PrintMore
set_option linter.unusedVariables false
set_option linter.unusedSimpArgs false
inductive ER where
  | un : ER
  | fo : ER
  | ok : List UInt8 → Nat → ER
def ER.t : ER → ByteArray × Int
  | .un => (⟨#[]⟩, -1)
  | .fo => (⟨#[]⟩, 0)
  | .ok d len => (ba d, (len : Int))
def ER.Is : ER → ByteArray × Int × Int → Prop
  | .un, v => v.2.2 = 13
  | .fo, v => v.2.2 = 3
  | .ok d len, v => v = (ba d, (len : Int), 0)
def ER.Fine (m : Nat) : ER → Prop
  | .ok d len => d.length ≤ 4 ∧ 1 ≤ len ∧ len ≤ m ∧ len ≤ 9
  | _ => True
theorem ib_none (c : UInt8) (h : c.toNat ≠ 34 ∧ c.toNat ≠ 92 ∧ c.toNat ≠ 110 ∧ c.toNat ≠ 114 ∧ c.toNat ≠ 116) : Lib.indexByte [34, 92, 110, 114, 116] c = -1 := by
  have H : ∀ n : Nat, n < 256 → (n ≠ 34 ∧ n ≠ 92 ∧ n ≠ 110 ∧ n ≠ 114 ∧ n ≠ 116) → Lib.indexByte [34, 92, 110, 114, 116] n.toUInt8 = -1 := by decide +kernel
  have e : c.toNat.toUInt8 = c := by simp [Nat.toUInt8]
  have := H c.toNat c.toNat_lt h
  rwa [e] at this
theorem valid_not (r : Nat) (h : ¬ (r < 55296 ∨ (57343 < r ∧ r ≤ 1114111))) : Ends (fun k => utf8_ValidRune.f k (r : Int)) false := by
  unfold utf8_ValidRune.f
  refine Ends.pos (by omega) (Ends.step (fun k => utf8_ValidRune.j0.eq_2 ..) ?_)
  refine Ends.neg (by simp; omega) ?_
  by_cases q : 57343 < (r : Int)
  · exact Ends.pos q (Ends.neg (by omega) (Ends.const _))
  · exact Ends.neg q (Ends.const _)
theorem byte_eq {c : UInt8} {n : Nat} (hn : n < 256) (h : c.toNat = n) : c = n.toUInt8 := by
  subst h; simp [Nat.toUInt8]
theorem esc_bx (t R : List UInt8) (hT : ∀ c ∈ t, c ≠ 10) (hR : Behind R) (hb : bt (ba (120 :: t)) 0 = 120) (hb' : bt (ba (120 :: t ++ R)) 0 = 120) :
    ∃ b : ER, b.Fine (t.length + 1) ∧ Ends (fun k => text_escape.f k (ba (120 :: t))) b.t ∧ ∃ v, b.Is v ∧ Ends (fun k => arboristref01_escape.f k (ba (120 :: t ++ R))) v := by
  have s0 : 0 < ((ba (120 :: t)).size : Int) := by rw [ba_size]; simp
  have s1 : 1 ≤ ((ba (120 :: t)).size : Int) := by omega
  have r0 : 0 < ((ba (120 :: t ++ R)).size : Int) := by rw [ba_size]; simp; omega
  have r1 : 1 ≤ ((ba (120 :: t ++ R)).size : Int) := by omega
  have txt : ∀ v, Ends (fun k => (text_braced.f k (ba t) 2 2).bind fun bt103 => (if bt103.2 < 1 then (some ((⟨#[]⟩ : ByteArray), bt103.2)) else (some (strOfNums (([(bt103.1) % 256] : List Int)), wrap64 (1 + bt103.2))))) v → Ends (fun k => text_escape.f k (ba (120 :: t))) v := by
    intro v hv
    unfold text_escape.f
    refine Ends.neg (by rw [ByteArray.toList_eq, ba_list]; simp) (Ends.pos s0 (Ends.bind0 (a := -1) (by rw [hb]; decide) (Ends.neg (by decide) (Ends.pos hb ?_))))
    refine Ends.step (fun k => text_escape.j0.eq_2 ..) (Ends.pos s1 ?_)
    rw [ba_drop]
    simpa using hv
  have head : ∀ v, Ends (fun k => if ((ba (120 :: t ++ R)).size : Int) > 1 then (if 1 < ((ba (120 :: t ++ R)).size : Int) then (if (bt (ba (120 :: t ++ R)) 1) = 10 then (some ((⟨#[]⟩ : ByteArray), 0, 13)) else (if 1 ≤ ((ba (120 :: t ++ R)).size : Int) then ((arboristref01_braced.f k ((ba (120 :: t ++ R)).extract 1 (ba (120 :: t ++ R)).size) 2 2).bind fun bt215 => (some (strOfNums (([(bt215.1) % 256] : List Int)), wrap64 (1 + bt215.2.1), bt215.2.2))) else (none))) else (none)) else (if 1 ≤ ((ba (120 :: t ++ R)).size : Int) then ((arboristref01_braced.f k ((ba (120 :: t ++ R)).extract 1 (ba (120 :: t ++ R)).size) 2 2).bind fun bt221 => (some (strOfNums (([(bt221.1) % 256] : List Int)), wrap64 (1 + bt221.2.1), bt221.2.2))) else (none))) v → Ends (fun k => arboristref01_escape.f k (ba (120 :: t ++ R))) v := by
    intro v hv
    unfold arboristref01_escape.f
    refine Ends.neg (by rw [ByteArray.toList_eq, ba_list]; simp) (Ends.pos r0 (Ends.step (fun k => arboristref01_escape.j0.eq_2 ..) (Ends.neg (by rw [hb']; decide) (Ends.pos r0 (Ends.neg (by rw [hb']; decide) (Ends.step (fun k => arboristref01_escape.j1.eq_2 ..) (Ends.neg (by rw [hb']; decide) ?_)))))))
    refine Ends.neg (by rw [hb']; decide) (Ends.neg (by rw [hb']; decide) (Ends.neg (by rw [hb']; decide) (Ends.pos hb' ?_)))
    exact hv
  have tail : (t ≠ [] ∨ R = []) → ∃ b : ER, b.Fine (t.length + 1) ∧ Ends (fun k => text_escape.f k (ba (120 :: t))) b.t ∧ ∃ v, b.Is v ∧ Ends (fun k => (arboristref01_braced.f k (ba (t ++ R)) 2 2).bind fun bt215 => (some (strOfNums (([(bt215.1) % 256] : List Int)), wrap64 (1 + bt215.2.1), bt215.2.2))) v := by
    intro hTR
    obtain ⟨b, hf, ht, hr⟩ := braced_both t R hT hR hTR 2 2 (by omega) (by omega)
    cases b with
    | un => exact ⟨.un, trivial, txt _ (Ends.bind ht (Ends.pos (by decide) (Ends.const _))), (_, _, 13), rfl, Ends.bind hr (Ends.const _)⟩
    | fo => exact ⟨.fo, trivial, txt _ (Ends.bind ht (Ends.pos (by decide) (Ends.const _))), (_, _, 3), rfl, Ends.bind hr (Ends.const _)⟩
    | ok n len =>
      obtain ⟨f1, f2, f3, f4⟩ := hf
      have n1 : len + 1 ≤ 4294967296 := by omega
      have ew : wrap64 (1 + (len : Int)) = ((len + 1 : Nat) : Int) := (congrArg wrap64 (by push_cast; omega)).trans (wrap_nat _ n1)
      have em : (n : Int) % 256 = ((n % 256 : Nat) : Int) := by omega
      have hge : ¬ ((len : Int) < 1) := by omega
      have EW := Aside0.mk ew
      clear ew
      refine ⟨.ok [(n % 256).toUInt8] (len + 1), ⟨by simp, by omega, by omega, by omega⟩, txt _ (Ends.bind ht (Ends.neg hge ?_)), _, rfl, Ends.bind hr ?_⟩
      · simp only [BR.t, em, EW.out]
        exact Ends.const _
      · simp only [BR.r, em, EW.out]
        exact Ends.const _
  rcases t with _ | ⟨c2, t2⟩
  · rcases hR with rfl | ⟨r, rfl⟩
    · obtain ⟨b, hf, ht, v, hv, hr⟩ := tail (.inr rfl)
      refine ⟨b, hf, ht, v, hv, head v (Ends.neg (by rw [ba_size]; simp) (Ends.pos r1 ?_))⟩
      rw [ba_drop]
      exact hr
    · obtain ⟨q1, q2⟩ := bt_ba (l := [120] ++ 10 :: r) (i := 1) rfl
      have q2' : bt (ba ([120] ++ 10 :: r)) 1 = 10 := q2
      have q3 : 1 < ((ba ([120] ++ 10 :: r)).size : Int) := by omega
      refine ⟨.un, trivial, txt _ ?_, (⟨#[]⟩, 0, 13), rfl, head (⟨#[]⟩, 0, 13) (Ends.pos q3 (Ends.pos q3 (Ends.pos q2' (Ends.const _))))⟩
      obtain ⟨b, hf, ht, hr⟩ := braced_both [] [] (by simp) (.inl rfl) (.inr rfl) 2 2 (by omega) (by omega)
      have hb2 : Ends (fun k => text_braced.f k (ba []) 2 2) (0, -1) := by
        unfold text_braced.f
        exact Ends.pos (by simp [ByteArray.toList_eq, ba]) (Ends.const _)
      exact Ends.bind hb2 (Ends.pos (by decide) (Ends.const _))
  · obtain ⟨q1, q2⟩ := bt_ba (l := 120 :: c2 :: t2 ++ R) (i := 1) rfl
    have q2' : bt (ba (120 :: c2 :: t2 ++ R)) 1 = (c2.toNat : Int) := q2
    have q3 : 1 < ((ba (120 :: c2 :: t2 ++ R)).size : Int) := by omega
    have hc2 : c2.toNat ≠ 10 := fun e => hT c2 List.mem_cons_self (byte_eq (n := 10) (by omega) e)
    obtain ⟨b, hf, ht, v, hv, hr⟩ := tail (.inl (by simp))
    refine ⟨b, hf, ht, v, hv, head v (Ends.pos q3 (Ends.pos q3 (Ends.neg (by rw [q2']; omega) (Ends.pos r1 ?_))))⟩
    rw [ba_drop]
    exact hr
theorem esc_bu (t R : List UInt8) (hT : ∀ c ∈ t, c ≠ 10) (hR : Behind R) (hb : bt (ba (117 :: t)) 0 = 117) (hb' : bt (ba (117 :: t ++ R)) 0 = 117) :
    ∃ b : ER, b.Fine (t.length + 1) ∧ Ends (fun k => text_escape.f k (ba (117 :: t))) b.t ∧ ∃ v, b.Is v ∧ Ends (fun k => arboristref01_escape.f k (ba (117 :: t ++ R))) v := by
  have s0 : 0 < ((ba (117 :: t)).size : Int) := by rw [ba_size]; simp
  have s1 : 1 ≤ ((ba (117 :: t)).size : Int) := by omega
  have r0 : 0 < ((ba (117 :: t ++ R)).size : Int) := by rw [ba_size]; simp; omega
  have r1 : 1 ≤ ((ba (117 :: t ++ R)).size : Int) := by omega
  have txt : ∀ v, Ends (fun k => (text_braced.f k (ba t) 1 6).bind fun bt103 => (if bt103.2 < 1 then (some ((⟨#[]⟩ : ByteArray), bt103.2)) else ((utf8_ValidRune.f k (wrap32 (bt103.1))).bind fun t108 => (if t108 = true then (some ((Utf8.encode (wrap32 (bt103.1))), wrap64 (1 + bt103.2))) else (some ((⟨#[]⟩ : ByteArray), 0)))))) v → Ends (fun k => text_escape.f k (ba (117 :: t))) v := by
    intro v hv
    unfold text_escape.f
    refine Ends.neg (by rw [ByteArray.toList_eq, ba_list]; simp) (Ends.pos s0 (Ends.bind0 (a := -1) (by rw [hb]; decide) (Ends.neg (by decide) (Ends.neg (by rw [hb]; decide) (Ends.pos hb ?_)))))
    refine Ends.step (fun k => text_escape.j0.eq_2 ..) (Ends.pos s1 ?_)
    rw [ba_drop]
    simpa using hv
  have head : ∀ v, Ends (fun k => if ((ba (117 :: t ++ R)).size : Int) > 1 then (if 1 < ((ba (117 :: t ++ R)).size : Int) then (arboristref01_escape.j2 k (ba (117 :: t ++ R)) ((bt (ba (117 :: t ++ R)) 1) == 10)) else (none)) else (arboristref01_escape.j2 k (ba (117 :: t ++ R)) false)) v → Ends (fun k => arboristref01_escape.f k (ba (117 :: t ++ R))) v := by
    intro v hv
    unfold arboristref01_escape.f
    refine Ends.neg (by rw [ByteArray.toList_eq, ba_list]; simp) (Ends.pos r0 (Ends.step (fun k => arboristref01_escape.j0.eq_2 ..) (Ends.neg (by rw [hb']; decide) (Ends.pos r0 (Ends.neg (by rw [hb']; decide) (Ends.step (fun k => arboristref01_escape.j1.eq_2 ..) (Ends.neg (by rw [hb']; decide) ?_)))))))
    refine Ends.neg (by rw [hb']; decide) (Ends.neg (by rw [hb']; decide) (Ends.neg (by rw [hb']; decide) (Ends.neg (by rw [hb']; decide) (Ends.pos hb' ?_))))
    exact hv
  have tail : (t ≠ [] ∨ R = []) → ∃ b : ER, b.Fine (t.length + 1) ∧ Ends (fun k => text_escape.f k (ba (117 :: t))) b.t ∧ ∃ v, b.Is v ∧ Ends (fun k => arboristref01_escape.j2 k (ba (117 :: t ++ R)) false) v := by
    intro hTR
    obtain ⟨b, hf, ht, hr⟩ := braced_both t R hT hR hTR 1 6 (by omega) (by omega)
    have open2 : ∀ v, Ends (fun k => (arboristref01_braced.f k (ba (t ++ R)) 1 6).bind fun bt227 => (if bt227.2.2 = 0 then (if bt227.1 > 1114111 then (some ((Utf8.encode (wrap32 (bt227.1))), wrap64 (1 + bt227.2.1), 3)) else (if bt227.1 ≥ 55296 then (if bt227.1 ≤ 57343 then (some ((Utf8.encode (wrap32 (bt227.1))), wrap64 (1 + bt227.2.1), 3)) else (some ((Utf8.encode (wrap32 (bt227.1))), wrap64 (1 + bt227.2.1), bt227.2.2))) else (some ((Utf8.encode (wrap32 (bt227.1))), wrap64 (1 + bt227.2.1), bt227.2.2)))) else (some ((Utf8.encode (wrap32 (bt227.1))), wrap64 (1 + bt227.2.1), bt227.2.2)))) v → Ends (fun k => arboristref01_escape.j2 k (ba (117 :: t ++ R)) false) v := by
      intro v hv
      refine Ends.step (fun k => arboristref01_escape.j2.eq_2 ..) (Ends.neg (by decide) (Ends.pos r1 ?_))
      rw [ba_drop]
      exact hv
    cases b with
    | un => exact ⟨.un, trivial, txt _ (Ends.bind ht (Ends.pos (by decide) (Ends.const _))), (_, _, 13), rfl, open2 (_, _, 13) (Ends.bind hr (Ends.neg (by decide) (Ends.const _)))⟩
    | fo => exact ⟨.fo, trivial, txt _ (Ends.bind ht (Ends.pos (by decide) (Ends.const _))), (_, _, 3), rfl, open2 (_, _, 3) (Ends.bind hr (Ends.neg (by decide) (Ends.const _)))⟩
    | ok n len =>
      obtain ⟨f1, f2, f3, f4⟩ := hf
      have n1 : len + 1 ≤ 4294967296 := by omega
      have ew : wrap64 (1 + (len : Int)) = ((len + 1 : Nat) : Int) := (congrArg wrap64 (by push_cast; omega)).trans (wrap_nat _ n1)
      have hw : wrap32 (n : Int) = (n : Int) := by unfold wrap32; omega
      have hge : ¬ ((len : Int) < 1) := by omega
      have EW := Aside0.mk ew
      have HW := Aside0.mk hw
      clear ew hw
      by_cases hv : n < 55296 ∨ (57343 < n ∧ n ≤ 1114111)
      · have hl2 := (Lib.runeCells_le (n : Int)).2
        rw [Lib.runeCells_length] at hl2
        refine ⟨.ok (Lib.encodeRune (n : Int)) (len + 1), ⟨by omega, by omega, by omega, by omega⟩, txt _ (Ends.bind ht (Ends.neg hge ?_)), (ba (Lib.encodeRune (n : Int)), ((len + 1 : Nat) : Int), 0), rfl, open2 _ (Ends.bind hr (Ends.pos rfl ?_))⟩
        · simp only [BR.t, HW.out, EW.out]
          refine Ends.bind (valid_ends n hv) (Ends.pos rfl ?_)
          rw [encode_ba]
          exact Ends.const _
        · simp only [BR.r, HW.out, EW.out, encode_ba]
          refine Ends.neg (by omega) ?_
          by_cases q : (n : Int) ≥ 55296
          · exact Ends.pos q (Ends.neg (by omega) (Ends.const _))
          · exact Ends.neg q (Ends.const _)
      · refine ⟨.fo, trivial, txt _ (Ends.bind ht (Ends.neg hge ?_)), (Utf8.encode (n : Int), ((len + 1 : Nat) : Int), 3), rfl, open2 _ (Ends.bind hr (Ends.pos rfl ?_))⟩
        · simp only [BR.t, HW.out, EW.out]
          exact Ends.bind (valid_not n hv) (Ends.neg (by decide) (Ends.const _))
        · simp only [BR.r, HW.out, EW.out]
          by_cases q : (n : Int) > 1114111
          · exact Ends.pos q (Ends.const _)
          · exact Ends.neg q (Ends.pos (by omega) (Ends.pos (by omega) (Ends.const _)))
  rcases t with _ | ⟨c2, t2⟩
  · rcases hR with rfl | ⟨r, rfl⟩
    · obtain ⟨b, hf, ht, v, hv, hr⟩ := tail (.inr rfl)
      exact ⟨b, hf, ht, v, hv, head v (Ends.neg (by rw [ba_size]; simp) hr)⟩
    · obtain ⟨q1, q2⟩ := bt_ba (l := [117] ++ 10 :: r) (i := 1) rfl
      have q2' : bt (ba ([117] ++ 10 :: r)) 1 = 10 := q2
      have q3 : 1 < ((ba ([117] ++ 10 :: r)).size : Int) := by omega
      refine ⟨.un, trivial, txt _ ?_, (⟨#[]⟩, 0, 13), rfl, head (⟨#[]⟩, 0, 13) (Ends.pos q3 (Ends.pos q3 (Ends.step (fun k => arboristref01_escape.j2.eq_2 ..) (Ends.pos (by rw [q2']; decide) (Ends.const _)))))⟩
      have hb2 : Ends (fun k => text_braced.f k (ba []) 1 6) (0, -1) := by
        unfold text_braced.f
        exact Ends.pos (by simp [ByteArray.toList_eq, ba]) (Ends.const _)
      exact Ends.bind hb2 (Ends.pos (by decide) (Ends.const _))
  · obtain ⟨q1, q2⟩ := bt_ba (l := 117 :: c2 :: t2 ++ R) (i := 1) rfl
    have q2' : bt (ba (117 :: c2 :: t2 ++ R)) 1 = (c2.toNat : Int) := q2
    have q3 : 1 < ((ba (117 :: c2 :: t2 ++ R)).size : Int) := by omega
    have hc2 : c2.toNat ≠ 10 := fun e => hT c2 List.mem_cons_self (byte_eq (n := 10) (by omega) e)
    have e1 : (bt (ba (117 :: c2 :: t2 ++ R)) 1 == 10) = false := by rw [q2']; simp; omega
    obtain ⟨b, hf, ht, v, hv, hr⟩ := tail (.inl (by simp))
    refine ⟨b, hf, ht, v, hv, head v (Ends.pos q3 (Ends.pos q3 ?_))⟩
    rw [e1]
    exact hr
theorem escape_both (T R : List UInt8) (hT : ∀ c ∈ T, c ≠ 10) (hR : Behind R) :
    ∃ b : ER, b.Fine T.length ∧ Ends (fun k => text_escape.f k (ba T)) b.t ∧ ∃ v, b.Is v ∧ Ends (fun k => arboristref01_escape.f k (ba (T ++ R))) v := by
  rcases T with _ | ⟨c, t⟩
  · refine ⟨.un, trivial, ?_, (⟨#[]⟩, 0, 13), rfl, ?_⟩
    · unfold text_escape.f
      exact Ends.pos (by simp [ByteArray.toList_eq, ba]) (Ends.const _)
    · unfold arboristref01_escape.f
      rcases hR with rfl | ⟨r, rfl⟩
      · exact Ends.pos (by simp [ByteArray.toList_eq, ba]) (Ends.step (fun k => arboristref01_escape.j0.eq_2 ..) (Ends.pos rfl (Ends.const _)))
      · obtain ⟨q1, q2⟩ := bt_ba (l := [] ++ 10 :: r) (i := 0) rfl
        have q2' : bt (ba ([] ++ 10 :: r)) 0 = 10 := q2
        exact Ends.neg (by simp [ByteArray.toList_eq, ba]) (Ends.pos (by omega) (Ends.step (fun k => arboristref01_escape.j0.eq_2 ..) (Ends.pos (by rw [q2']; decide) (Ends.const _))))
  have hT' : ∀ c ∈ t, c ≠ 10 := fun x hx => hT x (List.mem_cons_of_mem _ hx)
  have hc10 : c.toNat ≠ 10 := fun e => hT c List.mem_cons_self (byte_eq (n := 10) (by omega) e)
  obtain ⟨p1, p2⟩ := bt_ba (l := c :: t) (i := 0) rfl
  obtain ⟨q1, q2⟩ := bt_ba (l := c :: t ++ R) (i := 0) rfl
  have hb : bt (ba (c :: t)) 0 = (c.toNat : Int) := p2
  have hb' : bt (ba (c :: t ++ R)) 0 = (c.toNat : Int) := q2
  have s0 : 0 < ((ba (c :: t)).size : Int) := by omega
  have r0 : 0 < ((ba (c :: t ++ R)).size : Int) := by omega
  have r1 : 1 ≤ ((ba (c :: t ++ R)).size : Int) := by omega
  clear p1 p2 q1 q2
  have cut : (ba (c :: t ++ R)).extract 0 1 = ba [c] := by
    refine ba_ext ?_
    rw [ba_list]
    simp [ba, ByteArray.data_extract]
  have one : ∀ d : UInt8, ER.Fine (c :: t).length (.ok [d] 1) := fun d => ⟨by simp, by omega, by simp, by omega⟩
  have ref : ∀ v, Ends (fun k => if bt (ba (c :: t ++ R)) 0 = 34 then (arboristref01_escape.j1 k (ba (c :: t ++ R)) (bt (ba (c :: t ++ R)) 0) ((bt (ba (c :: t ++ R)) 0) == 34)) else (arboristref01_escape.j1 k (ba (c :: t ++ R)) (bt (ba (c :: t ++ R)) 0) ((bt (ba (c :: t ++ R)) 0) == 92))) v → Ends (fun k => arboristref01_escape.f k (ba (c :: t ++ R))) v := by
    intro v hv
    unfold arboristref01_escape.f
    exact Ends.neg (by rw [ByteArray.toList_eq, ba_list]; simp) (Ends.pos r0 (Ends.step (fun k => arboristref01_escape.j0.eq_2 ..) (Ends.neg (by rw [hb']; simp; omega) (Ends.pos r0 hv))))
  by_cases h34 : c.toNat = 34
  · obtain rfl : c = 34 := byte_eq (n := 34) (by omega) h34
    refine ⟨.ok [34] 1, one _, esc_char 34 0 t 34 (by omega) (by decide) (by decide), _, rfl, ref _ (Ends.pos hb' (Ends.step (fun k => arboristref01_escape.j1.eq_2 ..) (Ends.pos (by rw [hb']; decide) (Ends.pos (by decide) (Ends.pos r1 ?_)))))⟩
    rw [cut]; exact Ends.const _
  by_cases h92 : c.toNat = 92
  · obtain rfl : c = 92 := byte_eq (n := 92) (by omega) h92
    refine ⟨.ok [92] 1, one _, esc_char 92 1 t 92 (by omega) (by decide) (by decide), _, rfl, ref _ (Ends.neg (by rw [hb']; decide) (Ends.step (fun k => arboristref01_escape.j1.eq_2 ..) (Ends.pos (by rw [hb']; decide) (Ends.pos (by decide) (Ends.pos r1 ?_)))))⟩
    rw [cut]; exact Ends.const _
  by_cases h110 : c.toNat = 110
  · obtain rfl : c = 110 := byte_eq (n := 110) (by omega) h110
    refine ⟨.ok [10] 1, one _, esc_char 110 2 t 10 (by omega) (by decide) (by decide), _, rfl, ref _ (Ends.neg (by rw [hb']; decide) (Ends.step (fun k => arboristref01_escape.j1.eq_2 ..) (Ends.neg (by rw [hb']; decide) (Ends.pos hb' (Ends.const _)))))⟩
  by_cases h114 : c.toNat = 114
  · obtain rfl : c = 114 := byte_eq (n := 114) (by omega) h114
    refine ⟨.ok [13] 1, one _, esc_char 114 3 t 13 (by omega) (by decide) (by decide), _, rfl, ref _ (Ends.neg (by rw [hb']; decide) (Ends.step (fun k => arboristref01_escape.j1.eq_2 ..) (Ends.neg (by rw [hb']; decide) (Ends.neg (by rw [hb']; decide) (Ends.pos hb' (Ends.const _))))))⟩
  by_cases h116 : c.toNat = 116
  · obtain rfl : c = 116 := byte_eq (n := 116) (by omega) h116
    refine ⟨.ok [9] 1, one _, esc_char 116 4 t 9 (by omega) (by decide) (by decide), _, rfl, ref _ (Ends.neg (by rw [hb']; decide) (Ends.step (fun k => arboristref01_escape.j1.eq_2 ..) (Ends.neg (by rw [hb']; decide) (Ends.neg (by rw [hb']; decide) (Ends.neg (by rw [hb']; decide) (Ends.pos hb' (Ends.const _)))))))⟩
  by_cases h120 : c.toNat = 120
  · obtain rfl : c = 120 := byte_eq (n := 120) (by omega) h120
    exact esc_bx t R hT' hR hb hb'
  by_cases h117 : c.toNat = 117
  · obtain rfl : c = 117 := byte_eq (n := 117) (by omega) h117
    exact esc_bu t R hT' hR hb hb'
  refine ⟨.fo, trivial, ?_, (⟨#[]⟩, 0, 3), rfl, ref _ (Ends.neg (by omega) (Ends.step (fun k => arboristref01_escape.j1.eq_2 ..) (Ends.neg (by rw [hb']; simp; omega) (Ends.neg (by omega) (Ends.neg (by omega) (Ends.neg (by omega) (Ends.neg (by omega) (Ends.neg (by omega) (Ends.const _)))))))))⟩
  unfold text_escape.f
  refine Ends.neg (by rw [ByteArray.toList_eq, ba_list]; simp) (Ends.pos s0 (Ends.bind0 (a := -1) (by rw [hb]; exact ib_esc c _ (ib_none c ⟨h34, h92, h110, h114, h116⟩)) (Ends.neg (by decide) (Ends.neg (by omega) (Ends.neg (by omega) (Ends.const _))))))
end Go.Proofs.YthijdjpipjbkbaaDoor.H
end
section
namespace Go.Proofs.YthijdjpipjbkbaaDoor.H
open Go.RowKit Go.Proofs.YthijdjpipjbkbaaDoorW.PrintWords Go.Proofs.YthijdjpipjbkbaaDoorW.PrintLast Go.Proofs.YthijdjpipjbkbaaDoorW.PrintMore
set_option linter.unusedVariables false
set_option linter.unusedSimpArgs false
theorem cut_line : ∀ l : List UInt8, (Lib.cut l [10]).1 = l.takeWhile (fun c => c != 10)
  | [] => rfl
  | b :: l => by
    have ih := cut_line l
    have hge := Lib.index_ge l [10]
    unfold Lib.cut at ih ⊢
    by_cases h : b = 10
    · subst h
      have hi : Lib.index (10 :: l) [10] = 0 := by rw [Lib.index, if_pos (by simp)]
      rw [hi]
      simp
    · have hb : ¬ List.isPrefixOf [10] (b :: l) = true := by
        simp only [List.isPrefixOf, Bool.and_true, beq_iff_eq]
        exact fun q => h q.symm
      have hi : Lib.index (b :: l) [10] = if (Lib.index l [10] == -1) = true then -1 else Lib.index l [10] + 1 := by rw [Lib.index, if_neg hb]
      rw [hi, List.takeWhile_cons_of_pos (by simpa using h)]
      by_cases q : Lib.index l [10] = -1
      · have q1 : (Lib.index l [10] == -1) = true := by simpa using q
        have q2 : ¬ 0 ≤ Lib.index l [10] := by omega
        rw [if_pos q1, if_neg (by decide)]
        rw [if_neg q2] at ih
        exact congrArg (List.cons b) ih
      · have q1 : ¬ (Lib.index l [10] == -1) = true := by simpa using q
        have q2 : 0 ≤ Lib.index l [10] := by omega
        rw [if_neg q1, if_pos (by omega)]
        rw [if_pos q2] at ih
        show List.take _ _ = _
        rw [show (Lib.index l [10] + 1).toNat = (Lib.index l [10]).toNat + 1 by omega, List.take_succ_cons]
        exact congrArg (List.cons b) ih
theorem lineOf_eq (s : ByteArray) : lineOf s = ba (s.data.toList.takeWhile (fun c => c != 10)) := ba_ext (by unfold lineOf; rw [cut_line, ba_list])
theorem dec_ascii {L : List UInt8} {p : Nat} {c : UInt8} {t : List UInt8} (h : L.drop p = c :: t) (hc : c.toNat < 128) : p < (ba L).size ∧ Utf8.decode (ba L) p = (c.toNat, 1) := by
  obtain ⟨hi, _, hg⟩ := drop_cons h
  have hs : p < (ba L).size := by rw [ba_size]; exact hi
  have e : (ba L)[p]'hs = c := by
    have hl := List.getElem?_eq_getElem hi
    have h0 := hg 0
    rw [List.getD_eq_getElem?_getD, hl] at h0
    rw [← h0]; rfl
  exact ⟨hs, by have := decode_ascii (ba L) p hs (by rw [e]; exact hc); rw [this, e]⟩
theorem line_byte {T : List UInt8} (hT : ∀ c ∈ T, c ≠ 10) (p : Nat) (hp : p < T.length) (hr : (Utf8.decode (ba T) p).1 = 10) : False := by
  have hs : p < (ba T).size := by rw [ba_size]; exact hp
  obtain ⟨h1, h2⟩ := rune_ascii hs (by omega)
  have h3 := byte_drop (ba T) p hs
  rw [ba_list] at h3
  have hc : ((ba T)[p]'hs).toNat = 10 := by rw [h1] at hr; exact hr
  have : (ba T)[p]'hs ∈ T.drop p := by rw [h3]; exact List.mem_cons_self
  exact hT _ (List.mem_of_mem_drop this) (byte_eq (n := 10) (by omega) hc)
theorem unquote_both (T R : List UInt8) (hT : ∀ c ∈ T, c ≠ 10) (hR : Behind R) (hn : T.length ≤ 1000000) : ∀ (d p : Nat) (acc : List UInt8), T.length ≤ p + d → p ≤ T.length → acc.length ≤ 4 * p →
    ∃ v, Ends (fun k => text_Unquote.l0 k (ba T) acc p) v ∧ Ends (fun k => arboristref01_Unquote.l0 k (ba (T ++ R)) (ba acc) (p : Int)) v := by
  have last : ∀ (p : Nat) (acc : List UInt8), p = T.length → ∃ v, Ends (fun k => text_Unquote.l0 k (ba T) acc p) v ∧ Ends (fun k => arboristref01_Unquote.l0 k (ba (T ++ R)) (ba acc) (p : Int)) v := by
    intro p acc e
    refine ⟨(⟨#[]⟩, 0, 13), Ends.step (fun k => text_Unquote.l0.eq_2 ..) (Ends.neg (by rw [ba_size]; omega) (Ends.const _)), Ends.step (fun k => arboristref01_Unquote.l0.eq_2 ..) ?_⟩
    rcases hR with rfl | ⟨r, rfl⟩
    · exact Ends.neg (by rw [ba_size]; simp; omega) (Ends.const _)
    · have hd : (T ++ 10 :: r).drop p = 10 :: r := by subst e; simp
      obtain ⟨s1, s2⟩ := dec_ascii hd (by decide)
      refine Ends.pos (by omega) (Ends.pos (by omega) (Ends.pos (by omega) (Ends.bind0 (by rw [Int.toNat_natCast]; exact one_tail _ p s1) ?_)))
      rw [s2]
      exact Ends.neg (by decide) (Ends.pos (by decide) (Ends.const _))
  intro d
  induction d with
  | zero => intro p acc h1 h2 h3; exact last p acc (by omega)
  | succ d ih =>
    intro p acc h1 h2 h3
    by_cases hp : p < T.length
    case neg => exact last p acc (by omega)
    have hs : p < (ba T).size := by rw [ba_size]; exact hp
    have hs2 : p < (ba (T ++ R)).size := by rw [ba_size, List.length_append]; omega
    have w1 := rune_w_pos (ba T) p
    have w2 := rune_w_le (ba T) p hs
    have h10 : (Utf8.decode (ba T) p).1 ≠ 10 := fun e => line_byte hT p hp e
    have hdrop := byte_drop (ba T) p hs
    have hasc := fun q => rune_ascii (s := ba T) (pos := p) hs q
    have henc : ¬ ((Utf8.decode (ba T) p).1 = 65533 ∧ (Utf8.decode (ba T) p).2 = 1) → Lib.encodeRune ((Utf8.decode (ba T) p).1 : Int) = (T.drop p).take (Utf8.decode (ba T) p).2 := fun q => by
      have e : Lib.decodeL (T.drop p) = Utf8.decode (ba T) p := by
        have h1 := Lib.tail_decode (ba T) p 0
        rw [ba_drop] at h1
        exact h1
      have h3 := Lib.encode_decode (T.drop p) (by rw [ba_list] at hdrop; rw [hdrop]; simp) (by rw [e]; exact q)
      rw [e] at h3
      exact h3
    have hone := one_tail (ba (T ++ R)) p hs2
    rw [decode_line T R hR p hp] at hone
    rw [ba_size] at w2
    obtain ⟨r, hr⟩ : ∃ r, (Utf8.decode (ba T) p).1 = r := ⟨_, rfl⟩
    obtain ⟨wd, hw⟩ : ∃ wd, (Utf8.decode (ba T) p).2 = wd := ⟨_, rfl⟩
    have hrl := Lib.rune_le (ba T) p
    rw [hr] at h10 hasc henc hone hrl
    rw [hw] at w1 w2 henc hone
    have n1 : p + 1 ≤ 4294967296 := by omega
    have n2 : p + wd ≤ 4294967296 := by omega
    have TX : ∀ v, Ends (fun k => if r = 34 then some ((⟨acc.toArray⟩ : ByteArray), (p : Int) + 1, (0 : Int))
       else if r = 92 then (text_escape.f k (ba (T.drop (p + 1)))).bind fun t =>
         if t.2 < 0 then some (⟨#[]⟩, 0, 13) else if t.2 = 0 then some (⟨#[]⟩, 0, 3)
         else if acc.length + t.1.size ≤ 140737488355000 then (if t.2 ≤ 4294967296 then text_Unquote.l0 k (ba T) (acc ++ t.1.data.toList) (p + (1 + t.2.toNat)) else none) else none
       else if r < 32 ∨ r = 127 ∨ (r = 65533 ∧ wd = 1) then some (⟨#[]⟩, 0, 3)
       else if acc.length ≤ 140737488355000 then text_Unquote.l0 k (ba T) (acc ++ Lib.encodeRune (r : Int)) (p + wd) else none) v → Ends (fun k => text_Unquote.l0 k (ba T) acc p) v := by
      intro v hv
      refine Ends.step (fun k => text_Unquote.l0.eq_2 ..) (Ends.pos hs ?_)
      simp only [hr, hw, ba_drop]
      exact hv
    have RX : ∀ v, Ends (fun k => (if (r : Int) = 34 then (some (ba acc, wrap64 ((p : Int) + 1), (0 : Int))) else (if (r : Int) = 10 then (some ((⟨#[]⟩ : ByteArray), 0, 13)) else (if (r : Int) = 92 then (if 0 ≤ (wrap64 ((p : Int) + 1)) then (if (wrap64 ((p : Int) + 1)) ≤ ((ba (T ++ R)).size : Int) then ((arboristref01_escape.f k ((ba (T ++ R)).extract ((wrap64 ((p : Int) + 1)) : Int).toNat (ba (T ++ R)).size)).bind fun bt232 => (if bt232.2.2 = 0 then (if (ba acc).size + bt232.1.size ≤ 9223372036854775807 then (arboristref01_Unquote.l0 k (ba (T ++ R)) (ba acc ++ bt232.1) (wrap64 ((p : Int) + (wrap64 (1 + bt232.2.1))))) else (none)) else (some ((⟨#[]⟩ : ByteArray), 0, bt232.2.2)))) else (none)) else (none)) else (if (r : Int) < 32 then (some ((⟨#[]⟩ : ByteArray), 0, 3)) else (if (r : Int) = 127 then (some ((⟨#[]⟩ : ByteArray), 0, 3)) else ((arboristref01_Invalid.f (r : Int) 0 (wd : Int)).bind fun t235 => (if t235 = true then (some ((⟨#[]⟩ : ByteArray), 0, 3)) else (if (p : Int) ≤ (wrap64 ((p : Int) + (wd : Int))) then (if (wrap64 ((p : Int) + (wd : Int))) ≤ ((ba (T ++ R)).size : Int) then (if (ba acc).size + ((ba (T ++ R)).extract (p : Int).toNat ((wrap64 ((p : Int) + (wd : Int))) : Int).toNat).size ≤ 9223372036854775807 then (arboristref01_Unquote.l0 k (ba (T ++ R)) (ba acc ++ ((ba (T ++ R)).extract (p : Int).toNat ((wrap64 ((p : Int) + (wd : Int))) : Int).toNat)) (wrap64 ((p : Int) + (wd : Int)))) else (none)) else (none)) else (none)))))))))) v → Ends (fun k => arboristref01_Unquote.l0 k (ba (T ++ R)) (ba acc) (p : Int)) v := by
      intro v hv
      exact Ends.step (fun k => arboristref01_Unquote.l0.eq_2 ..) (Ends.pos (by omega) (Ends.pos (by omega) (Ends.pos (by omega) (Ends.bind0 (by rw [Int.toNat_natCast]; exact hone) hv))))
    have HO := Aside0.mk hone
    clear hone hr hw
    have e1 : wrap64 ((p : Int) + 1) = ((p + 1 : Nat) : Int) := (congrArg wrap64 (by push_cast; rfl)).trans (wrap_nat _ n1)
    have e2 : wrap64 ((p : Int) + (wd : Int)) = ((p + wd : Nat) : Int) := (congrArg wrap64 (by push_cast; rfl)).trans (wrap_nat _ n2)
    have E1 := Aside0.mk e1
    have E2 := Aside0.mk e2
    clear e1 e2
    by_cases h34 : r = 34
    · refine ⟨(ba acc, (p : Int) + 1, 0), TX _ (Ends.pos h34 (Ends.const _)), RX _ (Ends.pos (by omega) ?_)⟩
      rw [E1.out]
      exact (Ends.const _).val (by push_cast; rfl)
    by_cases h92 : r = 92
    · have hd1 : (T ++ R).drop (p + 1) = T.drop (p + 1) ++ R := List.drop_append_of_le_length (by omega)
      obtain ⟨b, hf, ht, v, hv, hre⟩ := escape_both (T.drop (p + 1)) R (fun c hc => hT c (List.mem_of_mem_drop hc)) hR
      have i34 : ¬ ((r : Int) = 34) := by omega
      have i10 : ¬ ((r : Int) = 10) := by omega
      have i92 : (r : Int) = 92 := by omega
      have z0 : (0 : Int) ≤ ((p + 1 : Nat) : Int) := by omega
      have z1 : ((p + 1 : Nat) : Int) ≤ ((ba (T ++ R)).size : Int) := by omega
      have RX2 : ∀ v2, Ends (fun k => if v.2.2 = 0 then (if (ba acc).size + v.1.size ≤ 9223372036854775807 then (arboristref01_Unquote.l0 k (ba (T ++ R)) (ba acc ++ v.1) (wrap64 ((p : Int) + (wrap64 (1 + v.2.1))))) else (none)) else (some ((⟨#[]⟩ : ByteArray), 0, v.2.2))) v2 → Ends (fun k => arboristref01_Unquote.l0 k (ba (T ++ R)) (ba acc) (p : Int)) v2 := by
        intro v2 hv2
        refine RX _ (Ends.neg i34 (Ends.neg i10 (Ends.pos i92 ?_)))
        rw [E1.out, Int.toNat_natCast, ba_drop, hd1]
        exact Ends.pos z0 (Ends.pos z1 (Ends.bind hre hv2))
      cases b with
      | un =>
        have h13 : v.2.2 = 13 := hv
        refine ⟨_, TX _ (Ends.neg h34 (Ends.pos h92 (Ends.bind ht (Ends.pos (by decide) (Ends.const _))))), RX2 _ (Ends.neg (by omega) ?_)⟩
        rw [h13]; exact Ends.const _
      | fo =>
        have h3' : v.2.2 = 3 := hv
        refine ⟨_, TX _ (Ends.neg h34 (Ends.pos h92 (Ends.bind ht (Ends.neg (by decide) (Ends.pos rfl (Ends.const _)))))), RX2 _ (Ends.neg (by omega) ?_)⟩
        rw [h3']; exact Ends.const _
      | ok dd len =>
        obtain ⟨f1, f2, f3, f4⟩ := hf
        rw [List.length_drop] at f3
        obtain rfl : v = (ba dd, (len : Int), 0) := hv
        obtain ⟨v2, g1, g2⟩ := ih (p + (1 + len)) (acc ++ dd) (by omega) (by omega) (by rw [List.length_append]; omega)
        have n3 : 1 + len ≤ 4294967296 := by omega
        have n4 : p + (1 + len) ≤ 4294967296 := by omega
        have e3 : wrap64 (1 + (len : Int)) = ((1 + len : Nat) : Int) := (congrArg wrap64 (by push_cast; rfl)).trans (wrap_nat _ n3)
        have e4 : wrap64 ((p : Int) + ((1 + len : Nat) : Int)) = ((p + (1 + len) : Nat) : Int) := (congrArg wrap64 (by push_cast; rfl)).trans (wrap_nat _ n4)
        have E3 := Aside0.mk e3
        have E4 := Aside0.mk e4
        clear e3 e4
        have k1 : ¬ ((len : Int) < 0) := by omega
        have k2 : ¬ ((len : Int) = 0) := by omega
        have k3 : acc.length + (ba dd).size ≤ 140737488355000 := by rw [ba_size]; omega
        have k4 : (len : Int) ≤ 4294967296 := by omega
        have k5 : (ba acc).size + (ba dd).size ≤ 9223372036854775807 := by rw [ba_size, ba_size]; omega
        refine ⟨v2, TX _ (Ends.neg h34 (Ends.pos h92 (Ends.bind ht ?_))), RX2 _ (Ends.pos rfl (Ends.pos k5 ?_))⟩
        · simp only [ER.t, ba_list, Int.toNat_natCast]
          exact Ends.neg k1 (Ends.neg k2 (Ends.pos k3 (Ends.pos k4 g1)))
        · simp only [E3.out, E4.out, ba_app]
          exact g2
    by_cases hbad : r < 32 ∨ r = 127 ∨ (r = 65533 ∧ wd = 1)
    · refine ⟨(⟨#[]⟩, 0, 3), TX _ (Ends.neg h34 (Ends.neg h92 (Ends.pos hbad (Ends.const _)))), RX _ (Ends.neg (by omega) (Ends.neg (by omega) (Ends.neg (by omega) ?_)))⟩
      by_cases h32 : (r : Int) < 32
      · exact Ends.pos h32 (Ends.const _)
      refine Ends.neg h32 ?_
      by_cases h127 : (r : Int) = 127
      · exact Ends.pos h127 (Ends.const _)
      refine Ends.neg h127 ?_
      have hiv : arboristref01_Invalid.f (r : Int) 0 (wd : Int) = some true := by
        unfold arboristref01_Invalid.f
        rw [if_pos (by omega)]
        simp; omega
      exact Ends.bind0 hiv (Ends.pos rfl (Ends.const _))
    · have hen := henc (by omega)
      have hl2 := (Lib.runeCells_le (r : Int)).2
      rw [Lib.runeCells_length] at hl2
      have hlen : (Lib.encodeRune (r : Int)).length ≤ 4 * wd := by omega
      obtain ⟨v2, g1, g2⟩ := ih (p + wd) (acc ++ Lib.encodeRune (r : Int)) (by omega) w2 (by rw [List.length_append]; omega)
      have hiv : arboristref01_Invalid.f (r : Int) 0 (wd : Int) = some false := by
        unfold arboristref01_Invalid.f
        by_cases q : (r : Int) = 65533
        · rw [if_pos q]; simp; omega
        · rw [if_neg q]
      have hex : (ba (T ++ R)).extract p (p + wd) = ba (Lib.encodeRune (r : Int)) := by
        refine ba_ext ?_
        rw [ba_list, hen]
        simp only [ba, ByteArray.data_extract]
        simp
        rw [List.drop_append_of_le_length (by omega), List.take_append_of_le_length (by rw [List.length_drop]; omega)]
      refine ⟨v2, TX _ (Ends.neg h34 (Ends.neg h92 (Ends.neg hbad (Ends.pos (by omega) g1)))), RX _ (Ends.neg (by omega) (Ends.neg (by omega) (Ends.neg (by omega) (Ends.neg (by omega) (Ends.neg (by omega) (Ends.bind0 hiv (Ends.neg (by decide) ?_)))))))⟩
      rw [E2.out, Int.toNat_natCast, Int.toNat_natCast, hex, ba_app]
      exact Ends.pos (by omega) (Ends.pos (by rw [ba_size, List.length_append]; omega) (Ends.pos (by rw [ba_size, ba_size]; omega) g2))
theorem behind_line (l : List UInt8) : Behind (l.dropWhile (fun c => c != 10)) := by
  induction l with
  | nil => exact .inl rfl
  | cons c l ih =>
    by_cases h : c = 10
    · subst h; exact .inr ⟨l, by simp [List.dropWhile]⟩
    · rw [List.dropWhile_cons_of_pos (by simpa using h)]; exact ih
theorem line_mem (l : List UInt8) : ∀ c ∈ l.takeWhile (fun c => c != 10), c ≠ 10 := by
  induction l with
  | nil => simp
  | cons c l ih =>
    by_cases h : c = 10
    · subst h; simp [List.takeWhile]
    · rw [List.takeWhile_cons_of_pos (by simpa using h)]
      intro x hx
      rcases List.mem_cons.1 hx with rfl | hx
      · exact h
      · exact ih x hx
theorem unquote_same (s : ByteArray) (hs : s.size ≤ 1000000) : ∃ v, Ends (fun k => text_Unquote.f k s) v ∧ Ends (fun k => arboristref01_Unquote.f k s) v := by
  obtain ⟨l, rfl⟩ : ∃ l, s = ba l := ⟨_, ba_of s⟩
  have hT := line_mem l
  have hR := behind_line l
  have hl : l.takeWhile (fun c => c != 10) ++ l.dropWhile (fun c => c != 10) = l := List.takeWhile_append_dropWhile
  have hlen : (l.takeWhile (fun c => c != 10)).length ≤ l.length := List.Sublist.length_le (List.takeWhile_sublist _)
  rw [ba_size] at hs
  have hz : (ba l).size < 4294967281 := by rw [ba_size]; omega
  have eL : lineOf (ba l) = ba (l.takeWhile (fun c => c != 10)) := by rw [lineOf_eq, ba_list]
  unfold text_Unquote.f arboristref01_Unquote.f
  rw [eL]
  rcases l with _ | ⟨c, t⟩
  · refine ⟨(⟨#[]⟩, 0, 3), Ends.pos hz (Ends.neg (by rw [ba_list]; decide) (Ends.const _)), Ends.pos (by simp [ByteArray.toList_eq, ba]) (Ends.step (fun k => arboristref01_Unquote.j0.eq_2 ..) (Ends.pos rfl (Ends.const _)))⟩
  · obtain ⟨q1, q2⟩ := bt_ba (l := c :: t) (i := 0) rfl
    have hb : bt (ba (c :: t)) 0 = (c.toNat : Int) := q2
    have s0 : 0 < ((ba (c :: t)).size : Int) := by omega
    by_cases h : c.toNat = 34
    · obtain rfl : c = 34 := byte_eq (n := 34) (by omega) h
      have e34 : (bt (ba (34 :: t)) 0 != 34) = false := by rw [hb]; decide
      have e1 : 1 ≤ ((34 :: t).takeWhile (fun c => c != 10)).length := by
        rw [List.takeWhile_cons_of_pos (by decide)]; simp
      obtain ⟨v, g1, g2⟩ := unquote_both _ _ hT hR (by omega) ((34 :: t).takeWhile (fun c => c != 10)).length 1 [] (by omega) e1 (by simp)
      rw [hl] at g2
      refine ⟨v, Ends.pos hz (Ends.pos (by rw [ba_list]; rfl) g1), Ends.neg (by rw [ByteArray.toList_eq, ba_list]; simp) (Ends.pos s0 (Ends.step (fun k => arboristref01_Unquote.j0.eq_2 ..) ?_))⟩
      rw [e34]
      exact Ends.neg (by decide) g2
    · have hne : c ≠ 34 := fun e => h (by rw [e]; rfl)
      have e34 : (bt (ba (c :: t)) 0 != 34) = true := by rw [hb]; simp; omega
      refine ⟨(⟨#[]⟩, 0, 3), Ends.pos hz (Ends.neg (by rw [ba_list]; simp [Lib.hasPrefix, List.isPrefixOf]; exact fun e => hne e.symm) (Ends.const _)), Ends.neg (by rw [ByteArray.toList_eq, ba_list]; simp) (Ends.pos s0 (Ends.step (fun k => arboristref01_Unquote.j0.eq_2 ..) (Ends.pos e34 (Ends.const _))))⟩
theorem unq_bound : ∀ (k : Nat) (line : ByteArray) (acc : List UInt8) (p : Nat) (t : ByteArray) (n : Int), text_Unquote.l0 k line acc p = some (t, n, 0) → (p : Int) + 1 ≤ n ∧ n ≤ (line.size : Int) := by
  intro k
  induction k with
  | zero => intro line acc p t n h; simp [text_Unquote.l0] at h
  | succ k ih =>
    intro line acc p t n h
    have w1 := rune_w_pos line p
    simp only [text_Unquote.l0] at h
    split at h
    case isFalse => simp at h
    rename_i hp
    split at h
    · simp only [Option.some.injEq, Prod.mk.injEq] at h
      obtain ⟨_, rfl, _⟩ := h
      omega
    split at h
    · obtain ⟨x, _, h⟩ := Option.bind_eq_some_iff.1 h
      split at h
      · simp at h
      split at h
      · simp at h
      split at h
      · split at h
        · have := ih _ _ _ _ _ h; omega
        · cases h
      · cases h
    split at h
    · simp at h
    split at h
    · have := ih _ _ _ _ _ h; omega
    · cases h
end Go.Proofs.YthijdjpipjbkbaaDoor.H
end
section
namespace Go.Proofs.YthijdjpipjbkbaaDoor.H
open Go.RowKit Go.Proofs.YthijdjpipjbkbaaDoorW.PrintWords Go.Proofs.YthijdjpipjbkbaaDoorW.PrintLast Go.Proofs.YthijdjpipjbkbaaDoorW.PrintMore
set_option linter.unusedVariables false
set_option linter.unusedSimpArgs false
section
set_option maxRecDepth 100000
theorem cls_letter (c : Nat) (h : c < 256) (hl : letB c = true) : cls c = 1 := by
  have H : ∀ c : Fin 256, letB (c : Nat) = true → cls (c : Nat) = 1 := by decide
  exact H ⟨c, h⟩ hl
theorem cls_digit (c : Nat) (h : c < 256) (hl : letB c = false) (hd : digB c = true) : cls c = 2 := by
  have H : ∀ c : Fin 256, letB (c : Nat) = false → digB (c : Nat) = true → cls (c : Nat) = 2 := by decide
  exact H ⟨c, h⟩ hl hd
def isSign (c : Nat) : Bool := c == 35 || c == 61 || c == 124 || c == 59 || c == 58 || c == 40 || c == 41 || c == 63 || c == 42 || c == 43 || c == 44
theorem cls_rest (c : Nat) (h : c < 256) (hl : letB c = false) (hd : digB c = false) (h1 : c ≠ 34) (h2 : c ≠ 47) (h3 : c ≠ 37) : cls c = 7 ∨ ((cls c = 6 ∨ cls c = 8) ∧ isSign c = true) ∨ (cls c = 0 ∧ isSign c = false) := by
  have H : ∀ c : Fin 256, letB (c : Nat) = false → digB (c : Nat) = false → (c : Nat) ≠ 34 → (c : Nat) ≠ 47 → (c : Nat) ≠ 37 → cls (c : Nat) = 7 ∨ ((cls (c : Nat) = 6 ∨ cls (c : Nat) = 8) ∧ isSign (c : Nat) = true) ∨ (cls (c : Nat) = 0 ∧ isSign (c : Nat) = false) := by decide
  exact H ⟨c, h⟩ hl hd h1 h2 h3
end
theorem ext_dt (s : ByteArray) (a b : Nat) : (s.extract a b).data.toList = (s.data.toList.drop a).take (b - a) := by
  rw [ByteArray.data_extract, Array.toList_extract, List.extract_eq_take_drop]
theorem ext_in (s : ByteArray) (i a b : Nat) (h : i + b ≤ s.size) : (s.extract i s.size).extract a b = s.extract (i + a) (i + b) := by
  refine ba_ext ?_
  rw [ext_dt, ext_list, List.drop_drop, ext_dt, show i + b - (i + a) = b - a by omega]
theorem trim_val (x : ByteArray) (h : x.size ≤ 9223372036854775807) : strings_Trim.f x digitsS = some ⟨(Lib.trimS x.data.toList digitsS.data.toList).toArray⟩ := by
  unfold strings_Trim.f
  rw [if_pos (rfl : digitsS = digitsS), if_pos h]
section
set_option maxRecDepth 100000
theorem dig_in : ∀ n : Fin 256, digitsS.data.toList.contains (UInt8.ofNat (n : Nat)) = digB (n : Nat) := by decide
end
theorem trim_nil (l : List UInt8) : ((⟨(Lib.trimS l digitsS.data.toList).toArray⟩ : ByteArray).toList = ([] : List UInt8)) ↔ (l.all fun c => digB c.toNat) = true := by
  have hc : ∀ c : UInt8, digitsS.data.toList.contains c = digB c.toNat := fun c => by
    have h := dig_in ⟨c.toNat, c.toNat_lt⟩
    simpa using h
  have dw : ∀ l : List UInt8, l.dropWhile (digitsS.data.toList.contains ·) = [] ↔ (l.all fun c => digB c.toNat) = true := by
    intro l
    induction l with
    | nil => simp
    | cons c r ih =>
      rw [List.dropWhile_cons, List.all_cons, hc c]
      cases digB c.toNat with
      | true => simpa using ih
      | false => simp
  have dn : ∀ l : List UInt8, ∀ c ∈ l.dropWhile (digitsS.data.toList.contains ·), c ∈ l := fun l c h => (List.dropWhile_sublist _).subset h
  rw [Lib.toList_data]
  show Lib.trimS l digitsS.data.toList = [] ↔ _
  unfold Lib.trimS Lib.trimLeftS Lib.trimRightS
  rw [dw, List.all_reverse]
  constructor
  · intro h
    by_cases hr : l.reverse.dropWhile (digitsS.data.toList.contains ·) = []
    · have := (dw _).1 hr
      rwa [List.all_reverse] at this
    · obtain ⟨c, r, hcr⟩ := List.exists_cons_of_ne_nil hr
      have h1 := List.head_dropWhile_not (digitsS.data.toList.contains ·) hr
      simp only [hcr, List.head_cons] at h1
      rw [hcr, List.all_cons] at h
      rw [hc c] at h1
      rw [h1] at h
      simp at h
  · intro h
    rw [List.all_eq_true] at h ⊢
    intro c hc2
    exact h c (by simpa using dn _ c hc2)
theorem byte_pre (s : ByteArray) (i n : Nat) (hn : 1 ≤ n) (h : i + n ≤ s.size) : byteAt (s.extract i (i + n)) 0 = byteAt s i := by
  have hs : 0 < (s.extract i (i + n)).size := by rw [ByteArray.size_extract]; omega
  obtain ⟨d, hd1, hd2⟩ := byte_cons (s.extract i (i + n)) 0 hs
  obtain ⟨c, hc1, hc2⟩ := byte_cons s i (by omega)
  have e : (s.extract i (i + n)).data.toList[0]? = some c := by
    rw [ext_dt, hc1, show i + n - i = (n - 1) + 1 by omega, List.take_succ_cons]; rfl
  have e2 : (s.extract i (i + n)).data.toList[0]? = some d := by
    have := congrArg (·[0]?) hd1
    simpa using this
  rw [e] at e2
  rw [← hd2, ← hc2, Option.some.inj e2]
def TokSame (s : ByteArray) (i : Nat) : Prop := ∃ (k : Int) (t : ByteArray) (m n e : Int) (k' : Int) (t' : ByteArray) (m' n' : Int),
  Ends (fun f => speclex_one.f f (s.extract i s.size) (cls (byteAt s i) : Int)) (k, t, m, n, e) ∧ Ends (fun f => arboristref11_one.f f s (i : Int)) (k', t', m', n', e) ∧
  (e = 0 → k' = k ∧ t' = t ∧ m' = (i : Int) ∧ n' = n ∧ 1 ≤ n ∧ (i : Int) + n ≤ (s.size : Int))
theorem sign_cases {c : Nat} (h : isSign c = true) : c = 35 ∨ c = 61 ∨ c = 124 ∨ c = 59 ∨ c = 58 ∨ c = 40 ∨ c = 41 ∨ c = 63 ∨ c = 42 ∨ c = 43 ∨ c = 44 := by
  unfold isSign at h
  simpa [or_assoc] using h
theorem sign_not {c : Nat} (h : isSign c = false) : c ≠ 35 ∧ c ≠ 61 ∧ c ≠ 124 ∧ c ≠ 59 ∧ c ≠ 58 ∧ c ≠ 40 ∧ c ≠ 41 ∧ c ≠ 63 ∧ c ≠ 42 ∧ c ≠ 43 ∧ c ≠ 44 := by
  unfold isSign at h
  simpa [and_assoc] using h
set_option maxHeartbeats 4000000 in
theorem tok_same (s : ByteArray) (hs : s.size ≤ 100000) (i : Nat) (hi : i < s.size) (h7 : cls (byteAt s i) ≠ 7) : TokSame s i := by
  obtain ⟨hb, hb2⟩ := byteAt_bt s i
  have hTs : (s.extract i s.size).size = s.size - i := ext_size s i (by omega)
  have hTl := ext_list s i
  have hT0 : byteAt (s.extract i s.size) 0 = byteAt s i := by rw [byte_ext s i 0 (by omega), Nat.add_zero]
  have hbT : bt (s.extract i s.size) 0 = (byteAt s i : Int) := by rw [← hT0]; exact (byteAt_bt _ 0).1
  obtain ⟨cb, hcb, hcn⟩ := byte_cons s i hi
  have hrl := rrun_ends s (by omega) i (by omega)
  have hnle : runLen (s.data.toList.drop i) ≤ s.size - i := by
    have := runLen_le (s.data.toList.drop i)
    rw [List.length_drop, Array.length_toList] at this
    exact this
  have hw : byteAt s i = cb.toNat := hcn.symm
  obtain ⟨n, hn⟩ : ∃ n, runLen (s.data.toList.drop i) = n := ⟨_, rfl⟩
  have hnp : wordB (byteAt s i) = true → 1 ≤ n := fun h => by
    rw [← hn, hcb, runLen_cons, if_pos (by rw [← hw]; exact h)]; omega
  rw [hn] at hrl hnle
  have hrf : speclex_run.f (s.extract i s.size) = some (n : Int) := by unfold speclex_run.f; rw [hTl, hn]
  have hex : (s.extract i s.size).extract 0 n = s.extract i (i + n) := by have := ext_in s i 0 n (by omega); rwa [Nat.add_zero] at this
  have hex1 : (s.extract i s.size).extract 0 1 = s.extract i (i + 1) := by have := ext_in s i 0 1 (by omega); rwa [Nat.add_zero] at this
  have HWIN := Aside0.mk (show wrap64 ((i : Int) + (n : Int)) = ((i + n : Nat) : Int) from wsum i n (by omega))
  obtain ⟨c, hc⟩ : ∃ c, byteAt s i = c := ⟨_, rfl⟩
  have HC := Aside0.mk hc
  rw [hc] at hb hb2 hT0 hbT hnp h7
  unfold TokSame
  rw [hc]
  have HI1 := Aside0.mk (show wrap64 ((i : Int) + 1) = ((i + 1 : Nat) : Int) from next_nat i (by omega))
  have hii : ((i : Int)).toNat = i := rfl
  have hRL := Aside0.mk hrl
  clear hrl hcb hcn hw hc
  cases hl : letB c with
  | true =>
    have hk := cls_letter c hb2 hl
    have hn1 := hnp (by unfold wordB; rw [hl]; rfl)
    refine ⟨1, s.extract i (i + n), 0, (n : Int), 0, 1, s.extract i (i + n), (i : Int), (n : Int), ?_, ?_, fun _ => ⟨rfl, rfl, rfl, rfl, by omega, by omega⟩⟩
    · unfold speclex_one.f
      rw [hk]
      refine Ends.pos rfl (Ends.bind0 hrf (Ends.pos (by omega) (Ends.pos (by omega) ((Ends.const _).val ?_))))
      rw [show ((n : Int)).toNat = n from rfl, hex]
    · unfold arboristref11_one.f
      rw [hb, HI1.out]
      refine Ends.pos (by omega) (Ends.pos (by omega) (Ends.pos (by omega) (Ends.pos (by omega) (Ends.bind0 (letterR _ hb2) (by rw [hl]; refine Ends.pos rfl (Ends.bind hRL.out ?_); rw [HWIN.out]; exact Ends.pos (by omega) (Ends.pos (by omega) (Ends.const _)))))))
  | false =>
  cases hd : digB c with
  | true =>
    have hk := cls_digit c hb2 hl hd
    have hn1 := hnp (by unfold wordB; rw [hl, Bool.false_or]; exact hd)
    have hxs : (s.extract i (i + n)).size = n := by rw [ByteArray.size_extract]; omega
    have hx0 : byteAt (s.extract i (i + n)) 0 = c := (byte_pre s i n hn1 (by omega)).trans HC.out
    have hnum := rnum_ends (s.extract i (i + n)) (by omega) (by omega)
    rw [hx0, hxs] at hnum
    have htrim : strings_Trim.f (s.extract i (i + n)) (⟨#[48, 49, 50, 51, 52, 53, 54, 55, 56, 57]⟩ : ByteArray) = some ⟨(Lib.trimS (s.extract i (i + n)).data.toList digitsS.data.toList).toArray⟩ := by
      exact trim_val _ (by omega)
    have htn := trim_nil (s.extract i (i + n)).data.toList
    obtain ⟨al, hal⟩ : ∃ al, ((s.extract i (i + n)).data.toList.all fun c => digB c.toNat) = al := ⟨_, rfl⟩
    rw [hal] at hnum htn
    have hrun : ∀ {v : Int × ByteArray × Int × Int × Int} (b : Bool), b = (al && (decide (n = 1) || decide (c ≠ 48))) → (if b = true then ((4 : Int), s.extract i (i + n), (i : Int), (n : Int), (0 : Int)) else (0, (⟨#[]⟩ : ByteArray), 0, 0, 14)) = v → Ends (fun f => arboristref11_one.f f s (i : Int)) v := fun b hbb hv => by
      unfold arboristref11_one.f
      rw [hb, HI1.out]
      refine Ends.pos (by omega) (Ends.pos (by omega) (Ends.pos (by omega) (Ends.pos (by omega) (Ends.bind0 (letterR _ hb2) ?_))))
      rw [hl]
      refine Ends.neg (by simp) (Ends.bind0 (digitR _ hb2) ?_)
      rw [hd]
      refine Ends.pos rfl (Ends.bind hRL.out ?_)
      rw [HWIN.out, hii, show (((i + n : Nat) : Int)).toNat = i + n from rfl]
      refine Ends.pos (by omega) (Ends.pos (by omega) (Ends.bind hnum ?_))
      rw [← hbb]
      cases b with
      | true => exact Ends.pos rfl ((Ends.const _).val (by rw [← hv]; rfl))
      | false => exact Ends.neg (by simp) ((Ends.const _).val (by rw [← hv]; rfl))
    have hprog : ∀ {v : Int × ByteArray × Int × Int × Int}, (if 1 < n ∧ c = 48 then (0, (⟨#[]⟩ : ByteArray), 0, 0, 14) else if al = true then ((4 : Int), s.extract i (i + n), (0 : Int), (n : Int), (0 : Int)) else (0, (⟨#[]⟩ : ByteArray), 0, 0, 14)) = v → Ends (fun f => speclex_one.f f (s.extract i s.size) (cls c : Int)) v := fun hv => by
      have tl : ∀ {v : Int × ByteArray × Int × Int × Int}, (if al = true then ((4 : Int), s.extract i (i + n), (0 : Int), (n : Int), (0 : Int)) else (0, (⟨#[]⟩ : ByteArray), 0, 0, 14)) = v → Ends (fun _ => (strings_Trim.f ((s.extract i s.size).extract 0 ((n : Int)).toNat) (⟨#[48, 49, 50, 51, 52, 53, 54, 55, 56, 57]⟩ : ByteArray)).bind fun t => (if t.toList = ([] : List UInt8) then (some ((4 : Int), (s.extract i s.size).extract 0 ((n : Int)).toNat, (0 : Int), (n : Int), (0 : Int))) else (some (0, (⟨#[]⟩ : ByteArray), 0, 0, 14)))) v := fun hv => by
        rw [show ((n : Int)).toNat = n from rfl, hex]
        refine Ends.bind0 htrim ?_
        cases hq : al with
        | true => exact Ends.pos (htn.2 hq) ((Ends.const _).val (by rw [← hv, hq]; rfl))
        | false => exact Ends.neg (fun h => by rw [htn.1 h] at hq; cases hq) ((Ends.const _).val (by rw [← hv, hq]; rfl))
      unfold speclex_one.f
      rw [hk]
      refine Ends.neg (by decide) (Ends.pos rfl (Ends.bind0 hrf ?_))
      rw [hbT]
      by_cases h1 : 1 < n
      · refine Ends.pos (by omega) (Ends.pos (by omega) ?_)
        by_cases h48 : c = 48
        · exact Ends.pos (by omega) ((Ends.const _).val (by rw [← hv, if_pos ⟨h1, h48⟩]))
        · exact Ends.neg (by omega) (Ends.pos (by omega) (Ends.pos (by omega) (tl (by rw [← hv, if_neg (show ¬ (1 < n ∧ c = 48) from fun h => h48 h.2)]))))
      · exact Ends.neg (by omega) (Ends.pos (by omega) (Ends.pos (by omega) (tl (by rw [← hv, if_neg (show ¬ (1 < n ∧ c = 48) from fun h => h1 h.1)]))))
    by_cases hok : al = true ∧ ¬ (1 < n ∧ c = 48)
    · refine ⟨4, s.extract i (i + n), 0, (n : Int), 0, 4, s.extract i (i + n), (i : Int), (n : Int), hprog (by rw [if_neg hok.2, if_pos hok.1]), hrun true ?_ rfl, fun _ => ⟨rfl, rfl, rfl, rfl, by omega, by omega⟩⟩
      rw [hok.1, Bool.true_and]
      have := hok.2
      by_cases h1 : n = 1
      · simp [h1]
      · rw [decide_eq_true (show c ≠ 48 by omega), Bool.or_true]
    · refine ⟨0, ⟨#[]⟩, 0, 0, 14, 0, ⟨#[]⟩, 0, 0, hprog ?_, hrun false ?_ rfl, fun h => by cases h⟩
      · by_cases h1 : 1 < n ∧ c = 48
        · rw [if_pos h1]
        · rw [if_neg h1, if_neg (fun h => hok ⟨h, h1⟩)]
      · cases hq : al with
        | false => rfl
        | true =>
          have : 1 < n ∧ c = 48 := Classical.byContradiction fun h => hok ⟨hq, h⟩
          rw [decide_eq_false (by omega), decide_eq_false (by omega)]; rfl
  | false =>
  by_cases h34 : c = 34
  · subst h34
    obtain ⟨v, g1, g2⟩ := unquote_same (s.extract i s.size) (by omega)
    obtain ⟨t, m, e⟩ := v
    refine ⟨2, t, 0, m, e, 2, t, (i : Int), m, ?_, ?_, fun he => ⟨rfl, rfl, rfl, rfl, ?_⟩⟩
    · unfold speclex_one.f
      refine Ends.neg (by decide) (Ends.neg (by decide) (Ends.pos (by rfl) (Ends.bind g1 (Ends.const _))))
    · unfold arboristref11_one.f
      rw [hb, HI1.out]
      refine Ends.pos (by omega) (Ends.pos (by omega) (Ends.pos (by omega) (Ends.pos (by omega) (Ends.bind0 (letterR _ hb2) ?_))))
      rw [hl]
      refine Ends.neg (by simp) (Ends.bind0 (digitR _ hb2) ?_)
      rw [hd]
      refine Ends.neg (by simp) (Ends.pos rfl (Ends.pos (by omega) (Ends.bind g2 (Ends.const _))))
    · subst he
      obtain ⟨k, hk⟩ := Ends.get g1
      unfold text_Unquote.f at hk
      split at hk
      · split at hk
        · have h1 := unq_bound _ _ _ _ _ _ hk
          have h2 := lineOf_size (s.extract i s.size)
          omega
        · simp at hk
      · cases hk
  by_cases h47 : c = 47
  · subst h47
    obtain ⟨v, g0, g1, g2⟩ := term_both s (by omega) i hi (s.size) 0 (by omega) (by omega)
    have refin : ∀ {v : Int × ByteArray × Int × Int × Int}, Ends (fun k => (arboristref11_term.f k s (i : Int)).bind fun t194 => (if t194 < 0 then (some (0, (⟨#[]⟩ : ByteArray), 0, 0, 13)) else (if 0 ≤ ((i + 1 : Nat) : Int) then (if ((i + 1 : Nat) : Int) ≤ (wrap64 (((i + 1 : Nat) : Int) + t194)) then (if (wrap64 (((i + 1 : Nat) : Int) + t194)) ≤ (s.size : Int) then (some (3, s.extract ((((i + 1 : Nat) : Int)) : Int).toNat ((wrap64 (((i + 1 : Nat) : Int) + t194)) : Int).toNat, (i : Int), wrap64 (t194 + 2), 0)) else (none)) else (none)) else (none)))) v → Ends (fun f => arboristref11_one.f f s (i : Int)) v := fun h => by
      unfold arboristref11_one.f
      rw [hb, HI1.out]
      refine Ends.pos (by omega) (Ends.pos (by omega) (Ends.pos (by omega) (Ends.pos (by omega) (Ends.bind0 (letterR _ hb2) ?_))))
      rw [hl]
      refine Ends.neg (by simp) (Ends.bind0 (digitR _ hb2) ?_)
      rw [hd]
      exact Ends.neg (by simp) (Ends.neg (by decide) (Ends.pos rfl h))
    cases v with
    | none =>
      refine ⟨0, ⟨#[]⟩, 0, 0, 13, 0, ⟨#[]⟩, 0, 0, ?_, refin (Ends.bind g2 (Ends.pos (by decide) (Ends.const _))), fun h => by cases h⟩
      unfold speclex_one.f
      exact Ends.neg (by decide) (Ends.neg (by decide) (Ends.neg (by decide) (Ends.pos (by rfl) (Ends.bind g1 (Ends.pos rfl (Ends.const _))))))
    | some m =>
      have hm := g0 m rfl
      have HW1 := Aside0.mk (show wrap64 (((m + 2 : Nat) : Int) - 1) = ((m + 1 : Nat) : Int) from (congrArg wrap64 (by push_cast; omega)).trans (wrap_nat (m + 1) (by omega)))
      have HW2 := Aside0.mk (show wrap64 (((i + 1 : Nat) : Int) + (m : Int)) = ((i + 1 + m : Nat) : Int) from wsum _ _ (by omega))
      have HW3 := Aside0.mk (show wrap64 ((m : Int) + 2) = ((m + 2 : Nat) : Int) from (congrArg wrap64 (by push_cast; omega)).trans (wrap_nat (m + 2) (by omega)))
      have hex2 : (s.extract i s.size).extract 1 (m + 1) = s.extract (i + 1) (i + 1 + m) := by rw [ext_in s i 1 (m + 1) (by omega)]; congr 1; omega
      refine ⟨3, s.extract (i + 1) (i + 1 + m), 0, ((m + 2 : Nat) : Int), 0, 3, s.extract (i + 1) (i + 1 + m), (i : Int), ((m + 2 : Nat) : Int), ?_, refin (Ends.bind g2 ?_), fun _ => ⟨rfl, rfl, rfl, rfl, by omega, by omega⟩⟩
      · unfold speclex_one.f
        refine Ends.neg (by decide) (Ends.neg (by decide) (Ends.neg (by decide) (Ends.pos (by rfl) (Ends.bind g1 ?_))))
        dsimp only
        rw [HW1.out]
        refine Ends.neg (by omega) (Ends.pos (by omega) (Ends.pos (by omega) ((Ends.const _).val ?_)))
        rw [show (((m + 1 : Nat) : Int)).toNat = m + 1 from rfl, hex2]
      · dsimp only
        rw [HW2.out, HW3.out]
        exact Ends.neg (by omega) (Ends.pos (by omega) (Ends.pos (by omega) (Ends.pos (by omega) (Ends.const _))))
  by_cases h37 : c = 37
  · subst h37
    have hrl2 := rrun_ends s (by omega) (i + 1) (by omega)
    obtain ⟨q, hq⟩ : ∃ q, runLen (s.data.toList.drop (i + 1)) = q := ⟨_, rfl⟩
    have hqle : q ≤ s.size - (i + 1) := by
      have := runLen_le (s.data.toList.drop (i + 1))
      rw [List.length_drop, Array.length_toList, hq] at this
      exact this
    rw [hq] at hrl2
    have hrf2 : speclex_run.f ((s.extract i s.size).extract 1 (s.extract i s.size).size) = some (q : Int) := by
      unfold speclex_run.f; rw [ext_list, hTl, List.drop_drop, hq]
    have HW1 := Aside0.mk (show wrap64 (1 + (q : Int)) = ((1 + q : Nat) : Int) from wsum 1 q (by omega))
    have HW2 := Aside0.mk (show wrap64 ((i : Int) + ((1 + q : Nat) : Int)) = ((i + (1 + q) : Nat) : Int) from wsum i (1 + q) (by omega))
    have hexq : (s.extract i s.size).extract 0 (1 + q) = s.extract i (i + (1 + q)) := by have := ext_in s i 0 (1 + q) (by omega); rwa [Nat.add_zero] at this
    obtain ⟨wd, hwd⟩ : ∃ wd, (wordsL.any fun w => w.toList == (s.extract i (i + (1 + q))).toList) = wd := ⟨_, rfl⟩
    have hword := rword_ends (s.extract i (i + (1 + q)))
    rw [hwd] at hword
    have hpw : speclex_word.f (s.extract i (i + (1 + q))) = some wd := by unfold speclex_word.f; rw [hwd]
    have pg : ∀ {v : Int × ByteArray × Int × Int × Int}, Ends (fun _ : Nat => if wd = true then (some ((5 : Int), s.extract i (i + (1 + q)), (0 : Int), ((1 + q : Nat) : Int), (0 : Int))) else (if (0 : Int) ≤ 1 then (some (6, (s.extract i s.size).extract 0 1, 0, 1, 0)) else (none))) v → Ends (fun f => speclex_one.f f (s.extract i s.size) (cls 37 : Int)) v := fun h => by
      unfold speclex_one.f
      refine Ends.neg (by decide) (Ends.neg (by decide) (Ends.neg (by decide) (Ends.neg (by decide) (Ends.pos (by rfl) (Ends.pos (by omega) (Ends.bind0 hrf2 ?_))))))
      rw [HW1.out, show (((1 + q : Nat) : Int)).toNat = 1 + q from rfl, hexq]
      exact Ends.pos (by omega) (Ends.pos (by omega) (Ends.bind0 hpw h))
    have rg : ∀ {v : Int × ByteArray × Int × Int × Int}, Ends (fun _ : Nat => if wd = true then (some ((5 : Int), s.extract i (i + (1 + q)), (i : Int), ((1 + q : Nat) : Int), (0 : Int))) else (some (6, s.extract i (i + 1), (i : Int), 1, 0))) v → Ends (fun f => arboristref11_one.f f s (i : Int)) v := fun h => by
      unfold arboristref11_one.f
      rw [hb, HI1.out]
      refine Ends.pos (by omega) (Ends.pos (by omega) (Ends.pos (by omega) (Ends.pos (by omega) (Ends.bind0 (letterR _ hb2) ?_))))
      rw [hl]
      refine Ends.neg (by simp) (Ends.bind0 (digitR _ hb2) ?_)
      rw [hd]
      refine Ends.neg (by simp) (Ends.neg (by decide) (Ends.neg (by decide) (Ends.pos rfl (Ends.bind hrl2 ?_))))
      rw [HW1.out, HW2.out, hii, show (((i + (1 + q) : Nat) : Int)).toNat = i + (1 + q) from rfl, show (((i + 1 : Nat) : Int)).toNat = i + 1 from rfl]
      exact Ends.pos (by omega) (Ends.pos (by omega) (Ends.bind hword h))
    cases wd with
    | true => exact ⟨5, s.extract i (i + (1 + q)), 0, ((1 + q : Nat) : Int), 0, 5, s.extract i (i + (1 + q)), (i : Int), ((1 + q : Nat) : Int), pg (Ends.pos rfl (Ends.const _)), rg (Ends.pos rfl (Ends.const _)), fun _ => ⟨rfl, rfl, rfl, rfl, by omega, by omega⟩⟩
    | false => exact ⟨6, s.extract i (i + 1), 0, 1, 0, 6, s.extract i (i + 1), (i : Int), 1, pg (Ends.neg (by simp) (Ends.pos (by decide) ((Ends.const _).val (by rw [hex1])))), rg (Ends.neg (by simp) (Ends.const _)), fun _ => ⟨rfl, rfl, rfl, rfl, by omega, by omega⟩⟩
  have rest : ∀ {v : Int × ByteArray × Int × Int × Int}, (isSign c = true → ((6 : Int), s.extract i (i + 1), (i : Int), (1 : Int), (0 : Int)) = v) → (isSign c = false → (0, (⟨#[]⟩ : ByteArray), 0, 0, 12) = v) → Ends (fun f => arboristref11_one.f f s (i : Int)) v := fun h1 h2 => by
    unfold arboristref11_one.f
    rw [hb, HI1.out]
    refine Ends.pos (by omega) (Ends.pos (by omega) (Ends.pos (by omega) (Ends.pos (by omega) (Ends.bind0 (letterR _ hb2) ?_))))
    rw [hl]
    refine Ends.neg (by simp) (Ends.bind0 (digitR _ hb2) ?_)
    rw [hd]
    refine Ends.neg (by simp) (Ends.neg (by omega) (Ends.neg (by omega) (Ends.neg (by omega) ?_)))
    cases hsg : isSign c with
    | true =>
      have hv := h1 hsg
      have hcs := sign_cases hsg
      clear h1 h2 hsg
      repeat' (refine Ends.ite' (fun _ => ?_) (fun _ => ?_))
      all_goals first
        | exact (Ends.const _).val hv
        | (exfalso; omega)
    | false =>
      have hv := h2 hsg
      obtain ⟨q1, q2, q3, q4, q5, q6, q7, q8, q9, q10, q11⟩ := sign_not hsg
      clear h1 h2 hsg
      repeat' (refine Ends.ite' (fun _ => ?_) (fun _ => ?_))
      all_goals first
        | (exfalso; omega)
        | exact (Ends.const _).val hv
  rcases cls_rest c hb2 hl hd h34 h47 h37 with h | ⟨h, hsg⟩ | ⟨h, hsg⟩
  · exact absurd h h7
  · refine ⟨6, s.extract i (i + 1), 0, 1, 0, 6, s.extract i (i + 1), (i : Int), 1, ?_, rest (fun _ => rfl) (fun q => by rw [hsg] at q; cases q), fun _ => ⟨rfl, rfl, rfl, rfl, by omega, by omega⟩⟩
    unfold speclex_one.f
    refine Ends.neg (by omega) (Ends.neg (by omega) (Ends.neg (by omega) (Ends.neg (by omega) (Ends.neg (by omega) (Ends.neg (by omega) (Ends.pos (by decide) (Ends.pos (by omega) ((Ends.const _).val ?_))))))))
    rw [hex1]
  · refine ⟨0, ⟨#[]⟩, 0, 0, 12, 0, ⟨#[]⟩, 0, 0, ?_, rest (fun q => by rw [hsg] at q; cases q) (fun _ => rfl), fun q => by cases q⟩
    unfold speclex_one.f
    exact Ends.neg (by omega) (Ends.neg (by omega) (Ends.neg (by omega) (Ends.neg (by omega) (Ends.neg (by omega) (Ends.pos (by omega) (Ends.const _))))))
end Go.Proofs.YthijdjpipjbkbaaDoor.H
end
section
namespace Go.Proofs.YthijdjpipjbkbaaDoor.H
open Go.RowKit Go.Proofs.YthijdjpipjbkbaaDoorW.PrintWords Go.Proofs.YthijdjpipjbkbaaDoorW.PrintLast Go.Proofs.YthijdjpipjbkbaaDoorW.PrintMore
set_option linter.unusedVariables false
set_option linter.unusedSimpArgs false
section
set_option maxRecDepth 100000
theorem cls7 (c : Nat) (h : c < 256) : cls c = 7 ↔ (c = 32 ∨ c = 9 ∨ c = 10 ∨ c = 13) := by
  have H : ∀ c : Fin 256, cls (c : Nat) = 7 ↔ ((c : Nat) = 32 ∨ (c : Nat) = 9 ∨ (c : Nat) = 10 ∨ (c : Nat) = 13) := by decide
  exact H ⟨c, h⟩
theorem cls8 (c : Nat) (h : c < 256) : cls c = 8 ↔ c = 35 := by
  have H : ∀ c : Fin 256, cls (c : Nat) = 8 ↔ (c : Nat) = 35 := by decide
  exact H ⟨c, h⟩
end
def BlankTo (s : ByteArray) (i e : Nat) : Prop := i ≤ e ∧ e ≤ s.size ∧ ∀ a, a ≤ i → Ends (fun k => arboristref11_blank.l0 k s (a : Int) ((i - a : Nat) : Int)) ((e - a : Nat) : Int)
section
variable {s : ByteArray} (hs : s.size ≤ 100000) {i : Nat}
include hs
theorem blank_end (hi : i = s.size) : BlankTo s i i := by
  refine ⟨Nat.le_refl _, by omega, fun a ha => Ends.step (fun k => arboristref11_blank.l0.eq_2 ..) ?_⟩
  rw [wsum a (i - a) (by omega), show a + (i - a) = i by omega]
  exact Ends.neg (by omega) (Ends.const _)
theorem blank_in (hi : i < s.size) (a : Nat) (ha : a ≤ i) {v : Int} (h : Ends (fun k => arboristref11_blank.j1 k s (a : Int) ((i - a : Nat) : Int) (byteAt s i : Int) (decide (cls (byteAt s i) = 7))) v) : Ends (fun k => arboristref11_blank.l0 k s (a : Int) ((i - a : Nat) : Int)) v := by
  obtain ⟨hb, hb2⟩ := byteAt_bt s i
  have h7 := cls7 (byteAt s i) hb2
  refine Ends.step (fun k => arboristref11_blank.l0.eq_2 ..) ?_
  rw [wsum a (i - a) (by omega), show a + (i - a) = i by omega, hb]
  refine Ends.pos (by omega) (Ends.pos (by omega) ?_)
  by_cases h32 : byteAt s i = 32
  · rw [decide_eq_true (h7.2 (.inl h32))] at h; exact Ends.pos (by omega) h
  by_cases h9 : byteAt s i = 9
  · rw [decide_eq_true (h7.2 (.inr (.inl h9)))] at h; exact Ends.neg (by omega) (Ends.pos (by omega) h)
  by_cases h10 : byteAt s i = 10
  · rw [decide_eq_true (h7.2 (.inr (.inr (.inl h10))))] at h; exact Ends.neg (by omega) (Ends.neg (by omega) (Ends.pos (by omega) h))
  refine Ends.neg (by omega) (Ends.neg (by omega) (Ends.neg (by omega) ?_))
  have e : (((byteAt s i : Nat) : Int) == 13) = decide (cls (byteAt s i) = 7) := by
    by_cases h13 : byteAt s i = 13
    · rw [decide_eq_true (h7.2 (.inr (.inr (.inr h13)))), h13]; rfl
    · rw [decide_eq_false (fun q => by have := h7.1 q; omega), beq_eq_false_iff_ne]; omega
  rw [e]; exact h
theorem blank_space (hi : i < s.size) (h7 : cls (byteAt s i) = 7) {e : Nat} (h : BlankTo s (i + 1) e) : BlankTo s i e := by
  obtain ⟨h1, h2, h3⟩ := h
  refine ⟨by omega, h2, fun a ha => blank_in hs hi a ha ?_⟩
  rw [decide_eq_true h7]
  refine Ends.step (fun k => arboristref11_blank.j1.eq_2 ..) (Ends.pos rfl ?_)
  rw [next_nat (i - a) (by omega), show i - a + 1 = i + 1 - a by omega]
  exact h3 a (by omega)
theorem blank_hash (hi : i < s.size) (a : Nat) (ha : a ≤ i) {v : Int} (h7 : cls (byteAt s i) ≠ 7) (h : Ends (fun k => arboristref11_blank.j2 k s (a : Int) ((i - a : Nat) : Int) (isCom s i)) v) : Ends (fun k => arboristref11_blank.l0 k s (a : Int) ((i - a : Nat) : Int)) v := by
  obtain ⟨hb, hb2⟩ := byteAt_bt s i
  refine blank_in hs hi a ha ?_
  rw [decide_eq_false h7]
  refine Ends.step (fun k => arboristref11_blank.j1.eq_2 ..) (Ends.neg (by simp) ?_)
  have h8 := cls8 (byteAt s i) hb2
  by_cases h35 : byteAt s i = 35
  · refine Ends.pos (by omega) ?_
    rw [wsum a (i - a) (by omega), show a + (i - a) = i by omega, next_nat i (by omega)]
    by_cases he : i + 1 < s.size
    · obtain ⟨hd, hd2⟩ := byteAt_bt s (i + 1)
      refine Ends.neg (by omega) (Ends.pos (by omega) (Ends.pos (by omega) ?_))
      rw [hd]
      refine Ends.bind0 (letterR _ hd2) ?_
      have e : isCom s i = !letB (byteAt s (i + 1)) := by
        unfold isCom
        rw [h8.2 h35, decide_eq_false (by omega)]
        simp
      rw [e] at h; exact h
    · have e : isCom s i = true := by
        unfold isCom
        rw [h8.2 h35, decide_eq_true (by omega)]
        simp
      rw [e] at h
      exact Ends.pos (by omega) h
  · have e : isCom s i = false := by
      unfold isCom
      rw [show (cls (byteAt s i) == 8) = false by rw [beq_eq_false_iff_ne]; exact fun q => h35 (h8.1 q), Bool.false_and]
    rw [e] at h
    exact Ends.neg (by omega) h
theorem blank_tok (hi : i < s.size) (h7 : cls (byteAt s i) ≠ 7) (hc : isCom s i = false) : BlankTo s i i := by
  refine ⟨Nat.le_refl _, by omega, fun a ha => blank_hash hs hi a ha h7 ?_⟩
  rw [hc]
  exact Ends.step (fun k => arboristref11_blank.j2.eq_2 ..) (Ends.neg (by simp) (Ends.const _))
theorem blank_l1 (a j : Nat) (hj : j ≤ s.size) {v : Int} (hb : j = s.size ∨ byteAt s j = 10) (h : Ends (fun k => arboristref11_blank.l0 k s (a : Int) ((j - a : Nat) : Int)) v) : ∀ (d p : Nat), j = p + d → a ≤ p → (∀ q, p ≤ q → q < j → byteAt s q ≠ 10) → Ends (fun k => arboristref11_blank.l1 k s (a : Int) ((p - a : Nat) : Int)) v := by
  intro d
  induction d with
  | zero =>
    intro p hp ha hn
    obtain rfl : p = j := by omega
    refine Ends.step (fun k => arboristref11_blank.l1.eq_2 ..) ?_
    rw [wsum a (p - a) (by omega), show a + (p - a) = p by omega]
    rcases hb with hb | hb
    · exact Ends.neg (by omega) h
    · by_cases hlt : p < s.size
      · refine Ends.pos (by omega) (Ends.pos (by omega) ?_)
        rw [(byteAt_bt s p).1]
        exact Ends.pos (by omega) h
      · exact Ends.neg (by omega) h
  | succ d ih =>
    intro p hp ha hn
    refine Ends.step (fun k => arboristref11_blank.l1.eq_2 ..) ?_
    rw [wsum a (p - a) (by omega), show a + (p - a) = p by omega]
    have hn0 := hn p (Nat.le_refl _) (by omega)
    refine Ends.pos (by omega) (Ends.pos (by omega) ?_)
    rw [(byteAt_bt s p).1, next_nat (p - a) (by omega), show p - a + 1 = p + 1 - a by omega]
    exact Ends.neg (by omega) (ih (p + 1) (by omega) (by omega) (fun q h1 h2 => hn q (by omega) h2))
theorem blank_com (hi : i < s.size) (hc : isCom s i = true) (j : Nat) (hij : i ≤ j) (hj : j ≤ s.size) (hn : ∀ q, i ≤ q → q < j → byteAt s q ≠ 10) (hb : j = s.size ∨ byteAt s j = 10) {e : Nat} (h : BlankTo s j e) : BlankTo s i e := by
  obtain ⟨h1, h2, h3⟩ := h
  have h8 : cls (byteAt s i) = 8 := by unfold isCom at hc; simp at hc; exact hc.1
  refine ⟨by omega, h2, fun a ha => blank_hash hs hi a ha (by omega) ?_⟩
  rw [hc]
  exact Ends.step (fun k => arboristref11_blank.j2.eq_2 ..) (Ends.pos rfl (blank_l1 hs a j hj hb (h3 a (by omega)) (j - i) i (by omega) ha hn))
end
theorem nl_none {s : ByteArray} {i : Nat} (h : nlAt s i < 0) : ∀ q, i ≤ q → q < s.size → byteAt s q ≠ 10 := by
  intro q h1 h2 h3
  have hg := Lib.indexByte_ge (s.extract i s.size).data.toList 10
  have e : Lib.indexByte (s.extract i s.size).data.toList 10 = -1 := by unfold nlAt at h; omega
  have := Lib.indexByte_none e (q - i)
  rw [ext_list, List.getElem?_drop, show i + (q - i) = q by omega] at this
  obtain ⟨c, hc, hb⟩ := byte_cons s q h2
  apply this
  have e2 : s.data.toList[q]? = some c := by
    have := congrArg (·[0]?) hc
    simpa [List.getElem?_drop] using this
  rw [e2]
  have : c.toNat = 10 := by omega
  exact congrArg some (UInt8.toNat_inj.1 this)
theorem nl_some {s : ByteArray} {i : Nat} (hi : i ≤ s.size) (h : 0 ≤ nlAt s i) : ∃ j, nlAt s i = ((j - i : Nat) : Int) ∧ i ≤ j ∧ j < s.size ∧ byteAt s j = 10 ∧ ∀ q, i ≤ q → q < j → byteAt s q ≠ 10 := by
  obtain ⟨o, ho⟩ := Int.eq_ofNat_of_zero_le h
  have hh := Lib.indexByte_some (show Lib.indexByte (s.extract i s.size).data.toList 10 = (o : Int) from ho)
  obtain ⟨h1, h2⟩ := hh
  rw [ext_list, List.getElem?_drop] at h1
  have hlt : i + o < s.size := by
    rcases Nat.lt_or_ge (i + o) s.size with q | q
    · exact q
    · rw [List.getElem?_eq_none (by rw [Array.length_toList]; exact q)] at h1; cases h1
  have at' : ∀ q, q < s.size → ∀ c, s.data.toList[q]? = some c → byteAt s q = c.toNat := fun q hq c hc => by
    obtain ⟨d, hd, hb⟩ := byte_cons s q hq
    have e := congrArg (·[0]?) hd
    simp only [List.getElem?_drop, Nat.add_zero, List.getElem?_cons_zero] at e
    rw [hc] at e
    rw [Option.some.inj e]; exact hb.symm
  refine ⟨i + o, by rw [ho]; congr 1; omega, by omega, hlt, at' _ hlt _ h1, fun q hq1 hq2 hq3 => ?_⟩
  obtain ⟨d, hd, hb⟩ := byte_cons s q (by omega)
  have e := congrArg (·[0]?) hd
  simp only [List.getElem?_drop, Nat.add_zero, List.getElem?_cons_zero] at e
  refine h2 (q - i) (by omega) ?_
  rw [ext_list, List.getElem?_drop, show i + (q - i) = q by omega, e]
  exact congrArg some (UInt8.toNat_inj.1 (by show d.toNat = 10; omega))
theorem scan_both (s : ByteArray) (hs : s.size ≤ 10000) : ∀ (d i : Nat) (out : List S32), s.size ≤ i + d → i ≤ s.size → out.length ≤ i →
    ∃ (e : Nat) (v : List S32 × Int × Int × ByteArray), BlankTo s i e ∧ Ends (fun k => speclex_Scan.l0 k s out i) v ∧ Ends (fun k => arboristref11_Scan.l0 k s out (e : Int)) v ∧ v.1.length ≤ s.size := by
  intro d
  induction d using Nat.strongRecOn with
  | ind d ih =>
    intro i out h1 h2 h3
    by_cases hi : i < s.size
    case neg =>
      refine ⟨i, (out, 0, 0, ⟨#[]⟩), blank_end (by omega) (by omega), ?_, ?_, by show out.length ≤ _; omega⟩
      · exact Ends.step (fun k => speclex_Scan.l0.eq_2 ..) (Ends.neg hi (Ends.const _))
      · exact Ends.step (fun k => arboristref11_Scan.l0.eq_2 ..) (Ends.neg (by omega) (Ends.const _))
    cases hcom : isCom s i with
    | true =>
      by_cases hn : nlAt s i < 0
      · refine ⟨s.size, (out, 0, 0, ⟨#[]⟩), blank_com (by omega) hi hcom s.size (by omega) (Nat.le_refl _) (nl_none hn) (.inl rfl) (blank_end (by omega) rfl), ?_, ?_, by show out.length ≤ _; omega⟩
        · exact Ends.step (fun k => speclex_Scan.l0.eq_2 ..) (Ends.pos hi (Ends.pos hcom (Ends.pos hn (Ends.const _))))
        · exact Ends.step (fun k => arboristref11_Scan.l0.eq_2 ..) (Ends.neg (by omega) (Ends.const _))
      · obtain ⟨j, g1, g2, g3, g4, g5⟩ := nl_some (by omega) (show 0 ≤ nlAt s i by omega)
        have hij : i ≠ j := by
          intro h
          have h8 : cls (byteAt s i) = 8 := by unfold isCom at hcom; simp at hcom; exact hcom.1
          have := (cls8 _ (byteAt_bt s i).2).1 h8
          rw [h] at this; omega
        obtain ⟨e, v, f1, f2, f3, f4⟩ := ih (d - (j - i)) (by omega) j out (by omega) (by omega) (by omega)
        refine ⟨e, v, blank_com (by omega) hi hcom j g2 (by omega) g5 (.inr g4) f1, ?_, f3, f4⟩
        refine Ends.step (fun k => speclex_Scan.l0.eq_2 ..) (Ends.pos hi (Ends.pos hcom (Ends.neg hn (Ends.pos (by omega) ?_))))
        rw [g1, show i + ((((j - i : Nat) : Int))).toNat = j by rw [Int.toNat_natCast]; omega]
        exact f2
    | false =>
      have hcn : ¬ isCom s i = true := by rw [hcom]; simp
      by_cases h7 : cls (byteAt s i) = 7
      · obtain ⟨e, v, f1, f2, f3, f4⟩ := ih (d - 1) (by omega) (i + 1) out (by omega) (by omega) (by omega)
        exact ⟨e, v, blank_space (by omega) hi h7 f1, Ends.step (fun k => speclex_Scan.l0.eq_2 ..) (Ends.pos hi (Ends.neg hcn (Ends.pos h7 f2))), f3, f4⟩
      · obtain ⟨k, t, m, n, e, k', t', m', n', p1, p2, p3⟩ := tok_same s (by omega) i hi h7
        have hbt := blank_tok (by omega) hi h7 hcom
        by_cases he : e = 0
        · obtain ⟨rfl, rfl, rfl, rfl, q1, q2⟩ := p3 he
          obtain ⟨nn, rfl⟩ := Int.eq_ofNat_of_zero_le (show 0 ≤ n' by omega)
          obtain ⟨e', v, f1, f2, f3, f4⟩ := ih (d - nn) (by omega) (i + nn) (out ++ [⟨k', t', (i : Int)⟩]) (by omega) (by omega) (by simp; omega)
          obtain ⟨b1, b2, b3⟩ := f1
          refine ⟨i, v, hbt, ?_, ?_, f4⟩
          · refine Ends.step (fun k => speclex_Scan.l0.eq_2 ..) (Ends.pos hi (Ends.neg hcn (Ends.neg h7 (Ends.neg (by omega) (Ends.pos (by omega) (Ends.bind p1 (Ends.pos he (Ends.pos ⟨show (0 : Int) ≤ (nn : Int) by omega, show (nn : Int) ≤ 4294967296 by omega⟩ ?_))))))))
            exact f2
          · refine Ends.step (fun k => arboristref11_Scan.l0.eq_2 ..) (Ends.pos (by omega) (Ends.neg (by omega) (Ends.bind p2 (Ends.pos he (Ends.pos (by omega) ?_)))))
            have b4 := b3 (i + nn) (Nat.le_refl _)
            rw [Nat.sub_self] at b4
            dsimp only
            rw [wsum i nn (by omega)]
            refine Ends.bind b4 ?_
            rw [wsum (i + nn) (e' - (i + nn)) (by omega), show i + nn + (e' - (i + nn)) = e' by omega]
            exact f3
        · refine ⟨i, ([], e, (i : Int), ⟨#[]⟩), hbt, ?_, ?_, Nat.zero_le _⟩
          · exact Ends.step (fun k => speclex_Scan.l0.eq_2 ..) (Ends.pos hi (Ends.neg hcn (Ends.neg h7 (Ends.neg (by omega) (Ends.pos (by omega) (Ends.bind p1 (Ends.neg he (Ends.const _))))))))
          · exact Ends.step (fun k => arboristref11_Scan.l0.eq_2 ..) (Ends.pos (by omega) (Ends.neg (by omega) (Ends.bind p2 (Ends.neg he (Ends.const _)))))
theorem scan_ends (s : ByteArray) (hs : s.size ≤ 10000) : ∃ v : List S32 × Int × Int × ByteArray, Ends (fun k => speclex_Scan.f k s) v ∧ Ends (fun k => arboristref11_Scan.f k s) v ∧ v.1.length ≤ s.size := by
  obtain ⟨e, v, f1, f2, f3, f4⟩ := scan_both s hs s.size 0 [] (by omega) (by omega) (by simp)
  obtain ⟨b1, b2, b3⟩ := f1
  refine ⟨v, ?_, ?_, f4⟩
  · unfold speclex_Scan.f
    exact Ends.pos (by omega) f2
  · unfold arboristref11_Scan.f
    exact Ends.neg (by omega) (Ends.bind (b3 0 (Nat.le_refl _)) f3)
end Go.Proofs.YthijdjpipjbkbaaDoor.H
end
section
namespace Go.Proofs.YthijdjpipjbkbaaDoor.H
open Go.RowKit Go.Shelf Go.Proofs.YthijdjpipjbkbaaDoorW.PrintWords Go.Proofs.YthijdjpipjbkbaaDoorW.PrintLast Go.Proofs.YthijdjpipjbkbaaDoorW.PrintMore
open Go.Maps
set_option linter.unusedVariables false
set_option linter.unusedSimpArgs false
set_option maxRecDepth 100000 in
set_option maxHeartbeats 8000000 in
theorem speclex_Scan.calls (k : Nat) (a0 : ByteArray) (r1 : List S32) (r2 r3 : Int) (r4 : ByteArray) (w : World) (hgw : GW w) (h : speclex_Scan.f k a0 = some (r1, r2, r3, r4)) :
    Calls Tryd.prog 9 #[.string a0] w fun e w' => ∃ v0_ : Value, e = .returned (.tuple #[v0_, .agg #[.int .i64 r2, .int .i64 r3, .string r4]]) ∧ Kd.R k32 32 w' w.heap.size (fun _ => True) v0_ r1 ∧ Below w.heap.size w w' := by
  have HGW := Aside0.mk hgw
  clear hgw
  have hu26 := Tryd.underlying26
  have hu32 := Tryd.underlying32
  have hzv := (zero_of_info info256).1
  have HB := Aside0.mk (Below.refl w.heap.size w)
  unfold speclex_Scan.f at h
  by_cases hsz : a0.size ≤ 65536
  case neg =>
    rw [if_neg hsz] at h
    simp only [Option.some.injEq, Prod.mk.injEq] at h
    obtain ⟨rfl, rfl, rfl, rfl⟩ := h
    have c2b0 : decide (65536 < (a0.size : Int)) = true := decide_eq_true (by omega)
    have c2b1 : decide (65536 < a0.size) = true := decide_eq_true (by omega)
    go_enter Tryd.func9, Tryd.ntmps9
    go_wp2_with ((with_reducible refine gate_dst (N := 3) rfl ?_); refine box_event ?hg (N := 3) ?hd (cs := #[.int .i64 0, .int .i64 0, .string (⟨#[]⟩ : ByteArray)]) (t := 26) ?hr ?_; (case hd => rfl); (case hg => rfl); (case hr => first | (go_simp; done) | (go_simp; rfl)); intro gd hg w3 hbox hb; have BKD := Aside0.mk hbox; have GD := Aside0.mk (show w.heap.size ≤ gd by omega); have HB3 := Aside0.mk hb; clear hbox hb hg; have hc0 : w3.cell? ⟨gd, 0, none⟩ = some (.int .i64 0) := (blk_cell BKD.out 0).trans rfl; have hc1 : w3.cell? ⟨gd, 1, none⟩ = some (.int .i64 0) := (blk_cell BKD.out 1).trans rfl; have hc2 : w3.cell? ⟨gd, 2, none⟩ = some (.string (⟨#[]⟩ : ByteArray)) := (blk_cell BKD.out 2).trans rfl; have hf0 := blk_frozen BKD.out 0; have hf1 := blk_frozen BKD.out 1; have hf2 := blk_frozen BKD.out 2)
    go_step3
    go_wp2
    exact ret0 BKD.out HB3.out GD.out rfl rfl rfl
  rw [if_pos hsz] at h
  have c2b0 : decide (65536 < (a0.size : Int)) = false := decide_eq_false (by omega)
  have c2b1 : decide (65536 < a0.size) = false := decide_eq_false (by omega)
  have H' := Aside0.mk h
  clear h
  go_enter Tryd.func9, Tryd.ntmps9
  go_wp2_with ((with_reducible refine gate_dst (N := 3) rfl ?_); refine box_event ?hg (N := 3) ?hd (cs := #[.int .i64 0, .int .i64 0, .string (⟨#[]⟩ : ByteArray)]) (t := 26) ?hr ?_; (case hd => rfl); (case hg => rfl); (case hr => first | (go_simp; done) | (go_simp; rfl)); intro gd hg w3 hbox hb; have BKD := Aside0.mk hbox; have GD := Aside0.mk (show w.heap.size ≤ gd by omega); have HB3 := Aside0.mk hb; clear hbox hb hg)
  go_step3
  go_wp2_with (first
    | (go_at_call 14; refine (speclex_begins.calls _).mono ?_; rintro e w4 ⟨rfl, hb⟩; have BKD4 := Aside0.mk (blk_below BKD.out hb); have HB4 := Aside0.mk (below_step HB3.out hb); clear hb)
    | ((with_reducible refine gate_dst (N := 4) rfl ?_); refine box_event ?hg (N := 4) ?hd (cs := Array.replicate 256 (.int .u8 0)) (t := 38) ?hr ?_; (case hd => rfl); (case hg => rfl); (case hr => first | (go_simp; done) | (go_simp; rfl)); intro gt hg w5 hbox hb; have BKT := Aside0.mk hbox; have GT := Aside0.mk hg; have BKD5 := Aside0.mk (blk_below BKD4.out hb); have HB5 := Aside0.mk (below_step HB4.out hb); clear hbox hb hg)
    | ((with_reducible refine gate_store (t := 38) (p := 4) (v := .tmp 16) rfl ?_); refine store_event rfl rfl rfl (RowT.store (RowT.of_zero BKT.out) cls) ?_; rintro _ rfl))
  go_step3
  go_wp2
  go_loopg [5, 6] k (fun g v5 v6 wx => ∃ (out : List S32) (i : Nat), v6 = .int .i64 (i : Int) ∧ Aside0 (speclex_Scan.l0 g a0 out i = some (r1, r2, r3, r4)) ∧ Aside0 (SC w gd gt v5 out wx))
  case atStart => exact ⟨[], 0, rfl, H', ⟨⟨below_setRow HB5.out (by have := below_size HB4.out; have := GT.out; omega) _, ⟨0, 0, ⟨#[]⟩, (setRow_other _ _ _ _ (by have := GT.out; have := blk_lt BKD4.out; omega)).trans BKD5.out⟩, RowT.setRow (RowT.of_zero BKT.out) cls, Kd.R_nil _ _ _ _ _⟩⟩⟩
  case round =>
    clear H' c2b0 c2b1 hzv
    obtain ⟨out, i, rfl, HA0, HS⟩ := hrel
    cases gk with
    | zero => exact absurd HA0.out (by simp [speclex_Scan.l0])
    | succ g =>
      have H := HA0.out
      clear HA0
      simp only [speclex_Scan.l0] at H
      by_cases hlt : i < a0.size
      case neg =>
        rw [if_neg hlt] at H
        simp only [Option.some.injEq, Prod.mk.injEq] at H
        obtain ⟨rfl, rfl, rfl, rfl⟩ := H
        have c7 : decide ((i : Int) < (a0.size : Int)) = false := decide_eq_false (by omega)
        obtain ⟨x0, x1, x2, ⟨hc0, hc1, hc2⟩, hf0, hf1, hf2⟩ := HS.out.dcell
        go_wp2
        exact HS.out.ret GD.out rfl rfl rfl (.inl ⟨rfl, rfl⟩)
      rw [if_pos hlt] at H
      have hlti : (i : Int) < (a0.size : Int) := by omega
      obtain ⟨hc, hc256⟩ := byteAt_bt a0 i
      obtain ⟨hd, hd256⟩ := byteAt_bt a0 (i + 1)
      have hlv := letter_val _ hd256
      have hx : (a0[i]'hlt).toNat = byteAt a0 i := by unfold byteAt bt; rw [dif_pos (by simpa using hlt)]; rfl
      have hx2 : ∀ h : i + 1 < a0.size, (a0[i + 1]'h).toNat = byteAt a0 (i + 1) := fun h => by unfold byteAt bt; rw [dif_pos (by simpa using h)]; rfl
      obtain ⟨htc, htf⟩ := HS.out.t.cell (byteAt a0 i) hc256
      have hcm : isCom a0 i = (cls (byteAt a0 i) == 8 && (decide (i + 1 = a0.size) || !letB (byteAt a0 (i + 1)))) := rfl
      obtain ⟨d, hdd⟩ : ∃ d, byteAt a0 (i + 1) = d := ⟨_, rfl⟩
      rw [hdd] at hlv hx2 hcm
      obtain ⟨c, hcc⟩ : ∃ c, byteAt a0 i = c := ⟨_, rfl⟩
      rw [hcc] at hx htc hcm H hc256
      have hci : (c : Int) < 256 := by omega
      obtain ⟨q, hq⟩ : ∃ q, cls c = q := ⟨_, rfl⟩
      rw [hq] at htc hcm H
      clear hc hd hdd hcc hq hd256
      by_cases com : isCom a0 i = true
      · rw [if_pos com] at H
        rw [com] at hcm
        obtain ⟨h8, he⟩ : q = 8 ∧ (i + 1 = a0.size ∨ letB d = false) := by
          have := hcm.symm
          simpa using this
        subst h8
        clear com hcm
        obtain ⟨n, hn⟩ : ∃ n, nlAt a0 i = n := ⟨_, rfl⟩
        have hIB : strings_IndexByte.f (a0.extract i a0.size) 10 = some n := by rw [← hn]; rfl
        rw [hn] at H
        clear hn
        obtain ⟨x0, x1, x2, ⟨hc0, hc1, hc2⟩, hf0, hf1, hf2⟩ := HS.out.dcell
        by_cases hneg : n < 0
        · rw [if_pos hneg] at H
          simp only [Option.some.injEq, Prod.mk.injEq] at H
          obtain ⟨rfl, rfl, rfl, rfl⟩ := H
          have dn : decide (n < 0) = true := decide_eq_true hneg
          by_cases he1 : i + 1 = a0.size
          · have b1 : (((i : Int) + 1) == (a0.size : Int)) = true := by simp; omega
            clear he
            go_wp2_with (go_at_call 16; refine (strings_IndexByte.calls _ _ n _ hIB).mono ?_; rintro e w' ⟨rfl, q2_, rfl⟩)
            exact (HS.out.below (by repeat (first | exact Below.refl _ _ | apply pw_below_drewN))).ret GD.out rfl rfl rfl (.inl ⟨rfl, rfl⟩)
          · have hl := he.resolve_left he1
            rw [hl] at hlv
            have b1 : (((i : Int) + 1) == (a0.size : Int)) = false := by simp; omega
            clear he
            go_wp2_with (first | (go_at_call 15; refine (speclex_letter.calls _ _ _ hlv).mono ?_; rintro e w' ⟨rfl, q_, rfl⟩) | (go_at_call 16; refine (strings_IndexByte.calls _ _ n _ hIB).mono ?_; rintro e w' ⟨rfl, q2_, rfl⟩))
            exact (HS.out.below (by repeat (first | exact Below.refl _ _ | apply pw_below_drewN))).ret GD.out rfl rfl rfl (.inl ⟨rfl, rfl⟩)
        · rw [if_neg hneg] at H
          have dn : decide (n < 0) = false := decide_eq_false hneg
          by_cases hn2 : n ≤ 4294967296
          case neg => rw [if_neg hn2] at H; cases H
          rw [if_pos hn2] at H
          have HH := Aside0.mk H
          clear H
          by_cases he1 : i + 1 = a0.size
          · have b1 : (((i : Int) + 1) == (a0.size : Int)) = true := by simp; omega
            clear he
            go_wp2_with (go_at_call 16; refine (strings_IndexByte.calls _ _ n _ hIB).mono ?_; rintro e w' ⟨rfl, q2_, rfl⟩)
            go_roundg g
            case measure => omega
            case rel => exact ⟨out, i + n.toNat, by congr 1; push_cast; omega, HH, ⟨HS.out.below (by repeat (first | exact Below.refl _ _ | apply pw_below_drewN))⟩⟩
          · have hl := he.resolve_left he1
            rw [hl] at hlv
            have b1 : (((i : Int) + 1) == (a0.size : Int)) = false := by simp; omega
            clear he
            go_wp2_with (first | (go_at_call 15; refine (speclex_letter.calls _ _ _ hlv).mono ?_; rintro e w' ⟨rfl, q_, rfl⟩) | (go_at_call 16; refine (strings_IndexByte.calls _ _ n _ hIB).mono ?_; rintro e w' ⟨rfl, q2_, rfl⟩))
            go_roundg g
            case measure => omega
            case rel => exact ⟨out, i + n.toNat, by congr 1; push_cast; omega, HH, ⟨HS.out.below (by repeat (first | exact Below.refl _ _ | apply pw_below_drewN))⟩⟩
      · rw [if_neg com] at H
        by_cases h7 : q = 7
        · subst h7
          rw [if_pos rfl] at H
          have HH := Aside0.mk H
          clear H com hcm
          go_wp2
          go_roundg g
          case measure => omega
          case rel => exact ⟨out, i + 1, by congr 1, HH, HS⟩
        rw [if_neg h7] at H
        have b7 : ((q : Int) == 7) = false := by simp; omega
        have alt : (((q : Int) == 8) = false) ∨ (((q : Int) == 8) = true ∧ (((i : Int) + 1) == (a0.size : Int)) = false ∧ letB d = true ∧ i + 1 < a0.size) := by
          have hf : (q == 8 && (decide (i + 1 = a0.size) || !letB d)) = false := by rw [← hcm]; simpa using com
          by_cases h8 : q = 8
          · subst h8
            have hne : ¬ i + 1 = a0.size := by intro h; simp [h] at hf
            refine .inr ⟨rfl, ?_, ?_, by omega⟩
            · simp; omega
            · cases hl : letB d with
              | true => rfl
              | false => rw [hl] at hf; simp at hf
          · exact .inl (by simp; omega)
        clear com hcm
        obtain ⟨Ao, co, hv5⟩ := Kd.R_slice HS.out.R
        subst hv5
        by_cases h16 : out.length = 16384
        · rw [if_pos h16] at H
          simp only [Option.some.injEq, Prod.mk.injEq] at H
          obtain ⟨rfl, rfl, rfl, rfl⟩ := H
          have d16 : ((out.length : Int) == 16384) = true := by simp; omega
          obtain ⟨x0, x1, x2, ⟨hc0, hc1, hc2⟩, hf0, hf1, hf2⟩ := HS.out.dcell
          rcases alt with hb8 | ⟨hb8, he, hl, hlt2⟩
          · go_wp2
            exact HS.out.ret GD.out rfl rfl rfl (.inr ⟨rfl, rfl⟩)
          · rw [hl] at hlv
            go_wp2_with (go_at_call 15; refine (speclex_letter.calls _ _ _ hlv).mono ?_; rintro e w' ⟨rfl, q_, rfl⟩)
            exact (HS.out.below (by repeat (first | exact Below.refl _ _ | apply pw_below_drewN))).ret GD.out rfl rfl rfl (.inr ⟨rfl, rfl⟩)
        rw [if_neg h16] at H
        have d16 : ((out.length : Int) == 16384) = false := by simp; omega
        by_cases hln : out.length < 4294967296
        case neg => rw [if_neg hln] at H; cases H
        rw [if_pos hln] at H
        have HLN := Aside0.mk hln
        clear hln
        replace H := Option.bind_eq_some_iff.mp H
        obtain ⟨⟨t1, t2, t3, t4, t5⟩, A, H⟩ := H
        have HA := Aside0.mk A
        clear A
        dsimp only at H
        by_cases h5 : t5 = 0
        · rw [if_pos h5] at H
          have b5 : (t5 != 0) = false := bne_eq_false_iff_eq.mpr h5
          have b50 : (t5 == 0) = true := beq_iff_eq.mpr h5
          clear h5
          by_cases h4 : 0 ≤ t4 ∧ t4 ≤ 4294967296
          case neg => rw [if_neg h4] at H; cases H
          rw [if_pos h4] at H
          obtain ⟨h40, h41⟩ := h4
          have HH := Aside0.mk H
          clear H
          rcases alt with hb8 | ⟨hb8, he, hl, hlt2⟩
          · go_wp2_with (first | (go_at_call 17; refine (speclex_one.calls g _ _ t1 t2 t3 t4 t5 _ (HGW.out.below (by repeat (first | exact HS.out.B | apply pw_below_drewN))) HA.out).mono ?_; rintro e w9 ⟨rfl, hb⟩; have HS9 := Aside0.mk (HS.out.below (below_step (by repeat (first | exact Below.refl _ _ | apply pw_below_drewN)) hb)); clear hb) | ((with_reducible refine gate_dst (N := 9) rfl ?_); refine box_event ?hg (N := 9) ?hd (cs := #[.int .i64 0, .string (⟨#[]⟩ : ByteArray), .int .i64 0]) (t := 32) ?hr ?_; (case hd => rfl); (case hg => rfl); (case hr => first | (go_simp; done) | (go_simp; rfl)); intro gb hg w10 hbox hb; have BK := Aside0.mk hbox; have SB0 := Aside0.mk (SB.new HS9.out hg hb); clear hbox hb hg; have z0 : w10.cell? ⟨gb, 0, none⟩ = some (.int .i64 0) := (blk_cell BK.out 0).trans rfl; have z1 : w10.cell? ⟨gb, 1, none⟩ = some (.string (⟨#[]⟩ : ByteArray)) := (blk_cell BK.out 1).trans rfl; have z2 : w10.cell? ⟨gb, 2, none⟩ = some (.int .i64 0) := (blk_cell BK.out 2).trans rfl; have y0 := blk_frozen BK.out 0; have y1 := blk_frozen BK.out 1; have y2 := blk_frozen BK.out 2; obtain ⟨x0, x1, x2, ⟨hc0, hc1, hc2⟩, hf0, hf1, hf2⟩ := SB0.out.s.dcell; have nd1 := SB0.out.nd; have nd2 := SB0.out.nd.symm; have z2b : ((((w10.setCell ⟨gb, 0, none⟩ (.int .i64 t1)).setCell ⟨gb, 1, none⟩ (.string t2)).setCell ⟨gb, 2, none⟩ (.int .i64 t3)).setCell ⟨gb, 2, none⟩ (.int .i64 (i : Int))).cell? ⟨gb, 2, none⟩ = some (.int .i64 (i : Int)) := (blk_cell (cs := #[.int .i64 t1, .string t2, .int .i64 (i : Int)]) (blk_put (cs := #[.int .i64 t1, .string t2, .int .i64 t3]) (blk_put (cs := #[.int .i64 t1, .string t2, .int .i64 0]) (blk_put (cs := #[.int .i64 t1, .string (⟨#[]⟩ : ByteArray), .int .i64 0]) (blk_put (cs := #[.int .i64 0, .string (⟨#[]⟩ : ByteArray), .int .i64 0]) BK.out 0 _ rfl) 1 _ rfl) 2 _ rfl) 2 _ rfl) 2).trans rfl) | ((with_reducible refine gate_builtin (b := .append) (xs := #[.tmp 77, .tmp 79]) rfl ?_); at_builtin; refine Kd.R_append k32 (w0 := w) w.heap.size rfl (.tmp 77) (.tmp 79) 23 32 (.agg #[(.int .i64 0), (.string ⟨#[]⟩), (.int .i64 0)]) 32 rfl Tryd.underlying23 info32 rfl (by decide) (by omega) (.slice Ao out.length co) out (⟨t1, t2, (i : Int)⟩ : S32) [.int .i64 t1, .string t2, .int .i64 (i : Int)] (fun k_ => k_ ≠ gb) (fun _ => False) rfl (by first | (go_simp; done) | (go_simp; rfl)) ?aP (fun _ hk => hk.elim) ?aF ?aO ?aB ?aS ?aL ?_; (case aP => exact k32_mkM _ _ _ (⟨t1, t2, (i : Int)⟩ : S32)); (case aB => exact (by (repeat (first | apply below_alloc | apply pw_below_drewN)); exact ((((SB0.out.set 0 _).set 1 _).set 2 _).set 2 _).s.B)); (case aF => exact (fun k_ hk => Kd.freshB (g := gb) (o := .cells #[.int .i64 t1, .string t2, .int .i64 (i : Int)] 32 (0, 0)) (by (with_reducible repeat (first | refine blk_drewN ?_ _ | refine blk_drew ?_ | refine blk_alloc ?_ _)); exact blk_put (cs := #[.int .i64 t1, .string t2, .int .i64 t3]) (blk_put (cs := #[.int .i64 t1, .string t2, .int .i64 0]) (blk_put (cs := #[.int .i64 t1, .string (⟨#[]⟩ : ByteArray), .int .i64 0]) (blk_put (cs := #[.int .i64 0, .string (⟨#[]⟩ : ByteArray), .int .i64 0]) BK.out 0 _ rfl) 1 _ rfl) 2 _ rfl) 2 _ rfl) k_ hk)); (case aO => exact (by (with_reducible repeat (first | apply Kd.R_alloc | apply Kd.R_drewN | apply Kd.R_drew)); exact ((((SB0.out.set 0 _).set 1 _).set 2 _).set 2 _).r)); (case aS => exact (below_size (by (repeat (first | apply below_alloc | apply pw_below_drewN)); exact ((((SB0.out.set 0 _).set 1 _).set 2 _).set 2 _).s.B))); (case aL => have := HLN.out; omega); intro v' w12 ho hb hg hat; have HSN := Aside0.mk (SC.grown (SC.below ((((SB0.out.set 0 _).set 1 _).set 2 _).set 2 _).s (by repeat (first | exact Below.refl _ _ | apply below_alloc | apply pw_below_drewN))) hg hb (Kd.R_mono ho (fun _ _ => trivial))); clear ho hb hg hat))
            go_roundg g
            case measure => omega
            case rel => exact ⟨_, i + t4.toNat, by congr 1; push_cast; omega, HH, HSN⟩
          · rw [hl] at hlv
            go_wp2_with (first | (go_at_call 15; refine (speclex_letter.calls _ _ _ hlv).mono ?_; rintro e w' ⟨rfl, q_, rfl⟩) | (go_at_call 17; refine (speclex_one.calls g _ _ t1 t2 t3 t4 t5 _ (HGW.out.below (by repeat (first | exact HS.out.B | apply pw_below_drewN))) HA.out).mono ?_; rintro e w9 ⟨rfl, hb⟩; have HS9 := Aside0.mk (HS.out.below (below_step (by repeat (first | exact Below.refl _ _ | apply pw_below_drewN)) hb)); clear hb) | ((with_reducible refine gate_dst (N := 9) rfl ?_); refine box_event ?hg (N := 9) ?hd (cs := #[.int .i64 0, .string (⟨#[]⟩ : ByteArray), .int .i64 0]) (t := 32) ?hr ?_; (case hd => rfl); (case hg => rfl); (case hr => first | (go_simp; done) | (go_simp; rfl)); intro gb hg w10 hbox hb; have BK := Aside0.mk hbox; have SB0 := Aside0.mk (SB.new HS9.out hg hb); clear hbox hb hg; have z0 : w10.cell? ⟨gb, 0, none⟩ = some (.int .i64 0) := (blk_cell BK.out 0).trans rfl; have z1 : w10.cell? ⟨gb, 1, none⟩ = some (.string (⟨#[]⟩ : ByteArray)) := (blk_cell BK.out 1).trans rfl; have z2 : w10.cell? ⟨gb, 2, none⟩ = some (.int .i64 0) := (blk_cell BK.out 2).trans rfl; have y0 := blk_frozen BK.out 0; have y1 := blk_frozen BK.out 1; have y2 := blk_frozen BK.out 2; obtain ⟨x0, x1, x2, ⟨hc0, hc1, hc2⟩, hf0, hf1, hf2⟩ := SB0.out.s.dcell; have nd1 := SB0.out.nd; have nd2 := SB0.out.nd.symm; have z2b : ((((w10.setCell ⟨gb, 0, none⟩ (.int .i64 t1)).setCell ⟨gb, 1, none⟩ (.string t2)).setCell ⟨gb, 2, none⟩ (.int .i64 t3)).setCell ⟨gb, 2, none⟩ (.int .i64 (i : Int))).cell? ⟨gb, 2, none⟩ = some (.int .i64 (i : Int)) := (blk_cell (cs := #[.int .i64 t1, .string t2, .int .i64 (i : Int)]) (blk_put (cs := #[.int .i64 t1, .string t2, .int .i64 t3]) (blk_put (cs := #[.int .i64 t1, .string t2, .int .i64 0]) (blk_put (cs := #[.int .i64 t1, .string (⟨#[]⟩ : ByteArray), .int .i64 0]) (blk_put (cs := #[.int .i64 0, .string (⟨#[]⟩ : ByteArray), .int .i64 0]) BK.out 0 _ rfl) 1 _ rfl) 2 _ rfl) 2 _ rfl) 2).trans rfl) | ((with_reducible refine gate_builtin (b := .append) (xs := #[.tmp 77, .tmp 79]) rfl ?_); at_builtin; refine Kd.R_append k32 (w0 := w) w.heap.size rfl (.tmp 77) (.tmp 79) 23 32 (.agg #[(.int .i64 0), (.string ⟨#[]⟩), (.int .i64 0)]) 32 rfl Tryd.underlying23 info32 rfl (by decide) (by omega) (.slice Ao out.length co) out (⟨t1, t2, (i : Int)⟩ : S32) [.int .i64 t1, .string t2, .int .i64 (i : Int)] (fun k_ => k_ ≠ gb) (fun _ => False) rfl (by first | (go_simp; done) | (go_simp; rfl)) ?aP (fun _ hk => hk.elim) ?aF ?aO ?aB ?aS ?aL ?_; (case aP => exact k32_mkM _ _ _ (⟨t1, t2, (i : Int)⟩ : S32)); (case aB => exact (by (repeat (first | apply below_alloc | apply pw_below_drewN)); exact ((((SB0.out.set 0 _).set 1 _).set 2 _).set 2 _).s.B)); (case aF => exact (fun k_ hk => Kd.freshB (g := gb) (o := .cells #[.int .i64 t1, .string t2, .int .i64 (i : Int)] 32 (0, 0)) (by (with_reducible repeat (first | refine blk_drewN ?_ _ | refine blk_drew ?_ | refine blk_alloc ?_ _)); exact blk_put (cs := #[.int .i64 t1, .string t2, .int .i64 t3]) (blk_put (cs := #[.int .i64 t1, .string t2, .int .i64 0]) (blk_put (cs := #[.int .i64 t1, .string (⟨#[]⟩ : ByteArray), .int .i64 0]) (blk_put (cs := #[.int .i64 0, .string (⟨#[]⟩ : ByteArray), .int .i64 0]) BK.out 0 _ rfl) 1 _ rfl) 2 _ rfl) 2 _ rfl) k_ hk)); (case aO => exact (by (with_reducible repeat (first | apply Kd.R_alloc | apply Kd.R_drewN | apply Kd.R_drew)); exact ((((SB0.out.set 0 _).set 1 _).set 2 _).set 2 _).r)); (case aS => exact (below_size (by (repeat (first | apply below_alloc | apply pw_below_drewN)); exact ((((SB0.out.set 0 _).set 1 _).set 2 _).set 2 _).s.B))); (case aL => have := HLN.out; omega); intro v' w12 ho hb hg hat; have HSN := Aside0.mk (SC.grown (SC.below ((((SB0.out.set 0 _).set 1 _).set 2 _).set 2 _).s (by repeat (first | exact Below.refl _ _ | apply below_alloc | apply pw_below_drewN))) hg hb (Kd.R_mono ho (fun _ _ => trivial))); clear ho hb hg hat))
            go_roundg g
            case measure => omega
            case rel => exact ⟨_, i + t4.toNat, by congr 1; push_cast; omega, HH, HSN⟩
        · rw [if_neg h5] at H
          simp only [Option.some.injEq, Prod.mk.injEq] at H
          obtain ⟨rfl, rfl, rfl, rfl⟩ := H
          have b5 : (t5 != 0) = true := bne_iff_ne.mpr h5
          have b50 : (t5 == 0) = false := beq_eq_false_iff_ne.mpr h5
          rcases alt with hb8 | ⟨hb8, he, hl, hlt2⟩
          · go_wp2_with (first | (go_at_call 17; refine (speclex_one.calls g _ _ t1 t2 t3 t4 t5 _ (HGW.out.below (by repeat (first | exact HS.out.B | apply pw_below_drewN))) HA.out).mono ?_; rintro e w9 ⟨rfl, hb⟩; have HS9 := Aside0.mk (HS.out.below (below_step (by repeat (first | exact Below.refl _ _ | apply pw_below_drewN)) hb)); clear hb) | ((with_reducible refine gate_dst (N := 9) rfl ?_); refine box_event ?hg (N := 9) ?hd (cs := #[.int .i64 0, .string (⟨#[]⟩ : ByteArray), .int .i64 0]) (t := 32) ?hr ?_; (case hd => rfl); (case hg => rfl); (case hr => first | (go_simp; done) | (go_simp; rfl)); intro gb hg w10 hbox hb; have BK := Aside0.mk hbox; have SB0 := Aside0.mk (SB.new HS9.out hg hb); clear hbox hb hg; have z0 : w10.cell? ⟨gb, 0, none⟩ = some (.int .i64 0) := (blk_cell BK.out 0).trans rfl; have z1 : w10.cell? ⟨gb, 1, none⟩ = some (.string (⟨#[]⟩ : ByteArray)) := (blk_cell BK.out 1).trans rfl; have z2 : w10.cell? ⟨gb, 2, none⟩ = some (.int .i64 0) := (blk_cell BK.out 2).trans rfl; have y0 := blk_frozen BK.out 0; have y1 := blk_frozen BK.out 1; have y2 := blk_frozen BK.out 2; obtain ⟨x0, x1, x2, ⟨hc0, hc1, hc2⟩, hf0, hf1, hf2⟩ := SB0.out.s.dcell; have nd1 := SB0.out.nd; have nd2 := SB0.out.nd.symm))
            exact (((SB0.out.set 0 _).set 1 _).set 2 _).s.ret GD.out rfl rfl rfl (.inr ⟨rfl, rfl⟩)
          · rw [hl] at hlv
            go_wp2_with (first | (go_at_call 15; refine (speclex_letter.calls _ _ _ hlv).mono ?_; rintro e w' ⟨rfl, q_, rfl⟩) | (go_at_call 17; refine (speclex_one.calls g _ _ t1 t2 t3 t4 t5 _ (HGW.out.below (by repeat (first | exact HS.out.B | apply pw_below_drewN))) HA.out).mono ?_; rintro e w9 ⟨rfl, hb⟩; have HS9 := Aside0.mk (HS.out.below (below_step (by repeat (first | exact Below.refl _ _ | apply pw_below_drewN)) hb)); clear hb) | ((with_reducible refine gate_dst (N := 9) rfl ?_); refine box_event ?hg (N := 9) ?hd (cs := #[.int .i64 0, .string (⟨#[]⟩ : ByteArray), .int .i64 0]) (t := 32) ?hr ?_; (case hd => rfl); (case hg => rfl); (case hr => first | (go_simp; done) | (go_simp; rfl)); intro gb hg w10 hbox hb; have BK := Aside0.mk hbox; have SB0 := Aside0.mk (SB.new HS9.out hg hb); clear hbox hb hg; have z0 : w10.cell? ⟨gb, 0, none⟩ = some (.int .i64 0) := (blk_cell BK.out 0).trans rfl; have z1 : w10.cell? ⟨gb, 1, none⟩ = some (.string (⟨#[]⟩ : ByteArray)) := (blk_cell BK.out 1).trans rfl; have z2 : w10.cell? ⟨gb, 2, none⟩ = some (.int .i64 0) := (blk_cell BK.out 2).trans rfl; have y0 := blk_frozen BK.out 0; have y1 := blk_frozen BK.out 1; have y2 := blk_frozen BK.out 2; obtain ⟨x0, x1, x2, ⟨hc0, hc1, hc2⟩, hf0, hf1, hf2⟩ := SB0.out.s.dcell; have nd1 := SB0.out.nd; have nd2 := SB0.out.nd.symm))
            exact (((SB0.out.set 0 _).set 1 _).set 2 _).s.ret GD.out rfl rfl rfl (.inr ⟨rfl, rfl⟩)
end Go.Proofs.YthijdjpipjbkbaaDoor.H
end
section
namespace Go.Proofs.YthijdjpipjbkbaaDoor.H
open Go.RowKit Go.Proofs.YthijdjpipjbkbaaDoorW.PrintWords Go.Proofs.YthijdjpipjbkbaaDoorW.PrintLast Go.Proofs.YthijdjpipjbkbaaDoorW.PrintMore
attribute [local go_sem] max2_int min2_int max_two min_two max_three min_three max_four min_four
set_option linter.unusedVariables false
set_option linter.unusedSimpArgs false
attribute [local go_sem high] eqA26 eqA32
def arboristlaw11_knows.f (k : Nat)  : Option (Bool) := (speclex_Scan.f k (⟨#[101, 32, 61, 32, 101, 32, 34, 43, 34, 32, 101, 32, 35, 97, 100, 100, 32, 124, 32, 78, 59, 32, 35, 32, 97, 108, 108]⟩ : ByteArray)).bind fun bt120 => ((speclex_Scan.f k (⟨#[47, 97, 92, 47, 98, 47]⟩ : ByteArray)).bind fun bt127 => ((speclex_Scan.f k (⟨#[48, 49]⟩ : ByteArray)).bind fun bt134 => ((speclex_Scan.f k (⟨#[47, 97]⟩ : ByteArray)).bind fun bt141 => (if (bt120.2.1 == 0 && (bt120.2.2.1 == 0 && (bt120.2.2.2.toList == ([] : List UInt8)))) = true then (if (bt127.2.1 == 0 && (bt127.2.2.1 == 0 && (bt127.2.2.2.toList == ([] : List UInt8)))) = true then (if (bt134.2.1 == 14 && (bt134.2.2.1 == 0 && (bt134.2.2.2.toList == ([] : List UInt8)))) = true then (if (bt141.2.1 == 13 && (bt141.2.2.1 == 0 && (bt141.2.2.2.toList == ([] : List UInt8)))) = true then (if (bt120.1.length : Int) = 10 then (if 3 < (bt120.1.length : Int) then (if (((rd_T32 bt120.1 3).f0) == 2 && ((((rd_T32 bt120.1 3).f1).toList) == ([43] : List UInt8) && (((rd_T32 bt120.1 3).f2) == 6))) = true then (if 5 < (bt120.1.length : Int) then (if ((rd_T32 bt120.1 5).f1).toList = ([35] : List UInt8) then (if (bt127.1.length : Int) = 1 then (if 0 < (bt127.1.length : Int) then (if (((rd_T32 bt127.1 0).f0) == 3 && ((((rd_T32 bt127.1 0).f1).toList) == ([97, 92, 47, 98] : List UInt8) && (((rd_T32 bt127.1 0).f2) == 0))) = true then ((speclex_Show.f bt127.1).bind fun t151 => (some (t151.toList == ([47, 97, 92, 47, 98, 47] : List UInt8)))) else (none)) else (none)) else (none)) else (none)) else (none)) else (none)) else (none)) else (none)) else (none)) else (none)) else (none)) else (none)))))
theorem arboristlaw11_knows.mono : ∀ k, LeO (arboristlaw11_knows.f k ) (arboristlaw11_knows.f (k + 1) ) := by
  intro  k
  unfold arboristlaw11_knows.f
  repeat' first
      | (with_reducible exact speclex_Scan.mono _ _)
      | (with_reducible exact LeO.refl _)
      | (with_reducible exact LeO.none _)
      | (with_reducible refine LeO.ite ?_ ?_)
      | (with_reducible refine LeO.bind ?_ (fun _ => ?_))
      | exact speclex_Scan.mono _ _
      | exact LeO.none _
      | refine LeO.ite ?_ ?_
      | refine LeO.bind ?_ (fun _ => ?_)
theorem scan_up {k m : Nat} (h : k ≤ m) {s : ByteArray} {v : List (S32) × Int × Int × ByteArray} (hk : speclex_Scan.f k s = some v) : speclex_Scan.f m s = some v := by
  induction m with
  | zero => obtain rfl : k = 0 := by omega
            exact hk
  | succ m ih =>
    rcases Nat.lt_or_ge k (m + 1) with q | q
    · exact speclex_Scan.mono s m v (ih (by omega))
    · obtain rfl : k = m + 1 := by omega
      exact hk
theorem diag_of (s : ByteArray) (n : Int) (hv : (speclex_Scan.f 60 s).map (fun t => (t.2.1, t.2.2.1, t.2.2.2.data.toList)) = some (n, 0, [])) {k : Nat} {a : List (S32)} {b c : Int} {d : ByteArray} (h : speclex_Scan.f k s = some (a, b, c, d)) : b = n ∧ c = 0 ∧ d = ⟨#[]⟩ := by
  have e : speclex_Scan.f 60 s = some (a, b, c, d) := by
    obtain ⟨C, hC, _⟩ := Option.map_eq_some_iff.1 hv
    rcases Nat.le_total k 60 with q | q
    · exact scan_up q h
    · have := scan_up q hC
      rw [h] at this
      rw [this]; exact hC
  rw [e] at hv
  simp only [Option.map_some, Option.some.injEq, Prod.mk.injEq] at hv
  exact ⟨hv.1, hv.2.1, ba_ext hv.2.2⟩
set_option maxHeartbeats 8000000 in
set_option maxRecDepth 100000 in
theorem arboristlaw11_knows.calls (k : Nat)  (r : Bool) (w : World) (hgw : GW w) (h : arboristlaw11_knows.f k  = some r) :
    Calls Tryd.prog 8 #[] w fun e w' => e = .returned (.bool r) ∧ Below w.heap.size w w' := by
  have HGW := Aside0.mk hgw
  clear hgw
  have hu26 := Tryd.underlying26
  have hu32 := Tryd.underlying32
  have HB := Aside0.mk (Below.refl w.heap.size w)
  have H : ((speclex_Scan.f k (⟨#[101, 32, 61, 32, 101, 32, 34, 43, 34, 32, 101, 32, 35, 97, 100, 100, 32, 124, 32, 78, 59, 32, 35, 32, 97, 108, 108]⟩ : ByteArray)).bind fun bt120 => ((speclex_Scan.f k (⟨#[47, 97, 92, 47, 98, 47]⟩ : ByteArray)).bind fun bt127 => ((speclex_Scan.f k (⟨#[48, 49]⟩ : ByteArray)).bind fun bt134 => ((speclex_Scan.f k (⟨#[47, 97]⟩ : ByteArray)).bind fun bt141 => (if (bt120.2.1 == 0 && (bt120.2.2.1 == 0 && (bt120.2.2.2.toList == ([] : List UInt8)))) = true then (if (bt127.2.1 == 0 && (bt127.2.2.1 == 0 && (bt127.2.2.2.toList == ([] : List UInt8)))) = true then (if (bt134.2.1 == 14 && (bt134.2.2.1 == 0 && (bt134.2.2.2.toList == ([] : List UInt8)))) = true then (if (bt141.2.1 == 13 && (bt141.2.2.1 == 0 && (bt141.2.2.2.toList == ([] : List UInt8)))) = true then (if (bt120.1.length : Int) = 10 then (if 3 < (bt120.1.length : Int) then (if (((rd_T32 bt120.1 3).f0) == 2 && ((((rd_T32 bt120.1 3).f1).toList) == ([43] : List UInt8) && (((rd_T32 bt120.1 3).f2) == 6))) = true then (if 5 < (bt120.1.length : Int) then (if ((rd_T32 bt120.1 5).f1).toList = ([35] : List UInt8) then (if (bt127.1.length : Int) = 1 then (if 0 < (bt127.1.length : Int) then (if (((rd_T32 bt127.1 0).f0) == 3 && ((((rd_T32 bt127.1 0).f1).toList) == ([97, 92, 47, 98] : List UInt8) && (((rd_T32 bt127.1 0).f2) == 0))) = true then ((speclex_Show.f bt127.1).bind fun t151 => (some (t151.toList == ([47, 97, 92, 47, 98, 47] : List UInt8)))) else (none)) else (none)) else (none)) else (none)) else (none)) else (none)) else (none)) else (none)) else (none)) else (none)) else (none)) else (none)))))) = some r := h
  clear h
  replace H := Option.bind_eq_some_iff.mp H
  obtain ⟨⟨t120, t123, t124, t125⟩, A10, H⟩ := H
  replace H : ((speclex_Scan.f k (⟨#[47, 97, 92, 47, 98, 47]⟩ : ByteArray)).bind fun bt127 => ((speclex_Scan.f k (⟨#[48, 49]⟩ : ByteArray)).bind fun bt134 => ((speclex_Scan.f k (⟨#[47, 97]⟩ : ByteArray)).bind fun bt141 => (if (t123 == 0 && (t124 == 0 && (t125.toList == ([] : List UInt8)))) = true then (if (bt127.2.1 == 0 && (bt127.2.2.1 == 0 && (bt127.2.2.2.toList == ([] : List UInt8)))) = true then (if (bt134.2.1 == 14 && (bt134.2.2.1 == 0 && (bt134.2.2.2.toList == ([] : List UInt8)))) = true then (if (bt141.2.1 == 13 && (bt141.2.2.1 == 0 && (bt141.2.2.2.toList == ([] : List UInt8)))) = true then (if (t120.length : Int) = 10 then (if 3 < (t120.length : Int) then (if (((rd_T32 t120 3).f0) == 2 && ((((rd_T32 t120 3).f1).toList) == ([43] : List UInt8) && (((rd_T32 t120 3).f2) == 6))) = true then (if 5 < (t120.length : Int) then (if ((rd_T32 t120 5).f1).toList = ([35] : List UInt8) then (if (bt127.1.length : Int) = 1 then (if 0 < (bt127.1.length : Int) then (if (((rd_T32 bt127.1 0).f0) == 3 && ((((rd_T32 bt127.1 0).f1).toList) == ([97, 92, 47, 98] : List UInt8) && (((rd_T32 bt127.1 0).f2) == 0))) = true then ((speclex_Show.f bt127.1).bind fun t151 => (some (t151.toList == ([47, 97, 92, 47, 98, 47] : List UInt8)))) else (none)) else (none)) else (none)) else (none)) else (none)) else (none)) else (none)) else (none)) else (none)) else (none)) else (none)) else (none))))) = some r := H
  have A1 := Aside0.mk A10
  clear A10
  replace H := Option.bind_eq_some_iff.mp H
  obtain ⟨⟨t127, t130, t131, t132⟩, A20, H⟩ := H
  replace H : ((speclex_Scan.f k (⟨#[48, 49]⟩ : ByteArray)).bind fun bt134 => ((speclex_Scan.f k (⟨#[47, 97]⟩ : ByteArray)).bind fun bt141 => (if (t123 == 0 && (t124 == 0 && (t125.toList == ([] : List UInt8)))) = true then (if (t130 == 0 && (t131 == 0 && (t132.toList == ([] : List UInt8)))) = true then (if (bt134.2.1 == 14 && (bt134.2.2.1 == 0 && (bt134.2.2.2.toList == ([] : List UInt8)))) = true then (if (bt141.2.1 == 13 && (bt141.2.2.1 == 0 && (bt141.2.2.2.toList == ([] : List UInt8)))) = true then (if (t120.length : Int) = 10 then (if 3 < (t120.length : Int) then (if (((rd_T32 t120 3).f0) == 2 && ((((rd_T32 t120 3).f1).toList) == ([43] : List UInt8) && (((rd_T32 t120 3).f2) == 6))) = true then (if 5 < (t120.length : Int) then (if ((rd_T32 t120 5).f1).toList = ([35] : List UInt8) then (if (t127.length : Int) = 1 then (if 0 < (t127.length : Int) then (if (((rd_T32 t127 0).f0) == 3 && ((((rd_T32 t127 0).f1).toList) == ([97, 92, 47, 98] : List UInt8) && (((rd_T32 t127 0).f2) == 0))) = true then ((speclex_Show.f t127).bind fun t151 => (some (t151.toList == ([47, 97, 92, 47, 98, 47] : List UInt8)))) else (none)) else (none)) else (none)) else (none)) else (none)) else (none)) else (none)) else (none)) else (none)) else (none)) else (none)) else (none)))) = some r := H
  have A2 := Aside0.mk A20
  clear A20
  replace H := Option.bind_eq_some_iff.mp H
  obtain ⟨⟨t134, t137, t138, t139⟩, A30, H⟩ := H
  replace H : ((speclex_Scan.f k (⟨#[47, 97]⟩ : ByteArray)).bind fun bt141 => (if (t123 == 0 && (t124 == 0 && (t125.toList == ([] : List UInt8)))) = true then (if (t130 == 0 && (t131 == 0 && (t132.toList == ([] : List UInt8)))) = true then (if (t137 == 14 && (t138 == 0 && (t139.toList == ([] : List UInt8)))) = true then (if (bt141.2.1 == 13 && (bt141.2.2.1 == 0 && (bt141.2.2.2.toList == ([] : List UInt8)))) = true then (if (t120.length : Int) = 10 then (if 3 < (t120.length : Int) then (if (((rd_T32 t120 3).f0) == 2 && ((((rd_T32 t120 3).f1).toList) == ([43] : List UInt8) && (((rd_T32 t120 3).f2) == 6))) = true then (if 5 < (t120.length : Int) then (if ((rd_T32 t120 5).f1).toList = ([35] : List UInt8) then (if (t127.length : Int) = 1 then (if 0 < (t127.length : Int) then (if (((rd_T32 t127 0).f0) == 3 && ((((rd_T32 t127 0).f1).toList) == ([97, 92, 47, 98] : List UInt8) && (((rd_T32 t127 0).f2) == 0))) = true then ((speclex_Show.f t127).bind fun t151 => (some (t151.toList == ([47, 97, 92, 47, 98, 47] : List UInt8)))) else (none)) else (none)) else (none)) else (none)) else (none)) else (none)) else (none)) else (none)) else (none)) else (none)) else (none)) else (none))) = some r := H
  have A3 := Aside0.mk A30
  clear A30
  replace H := Option.bind_eq_some_iff.mp H
  obtain ⟨⟨t141, t144, t145, t146⟩, A40, H⟩ := H
  replace H : (if (t123 == 0 && (t124 == 0 && (t125.toList == ([] : List UInt8)))) = true then (if (t130 == 0 && (t131 == 0 && (t132.toList == ([] : List UInt8)))) = true then (if (t137 == 14 && (t138 == 0 && (t139.toList == ([] : List UInt8)))) = true then (if (t144 == 13 && (t145 == 0 && (t146.toList == ([] : List UInt8)))) = true then (if (t120.length : Int) = 10 then (if 3 < (t120.length : Int) then (if (((rd_T32 t120 3).f0) == 2 && ((((rd_T32 t120 3).f1).toList) == ([43] : List UInt8) && (((rd_T32 t120 3).f2) == 6))) = true then (if 5 < (t120.length : Int) then (if ((rd_T32 t120 5).f1).toList = ([35] : List UInt8) then (if (t127.length : Int) = 1 then (if 0 < (t127.length : Int) then (if (((rd_T32 t127 0).f0) == 3 && ((((rd_T32 t127 0).f1).toList) == ([97, 92, 47, 98] : List UInt8) && (((rd_T32 t127 0).f2) == 0))) = true then ((speclex_Show.f t127).bind fun t151 => (some (t151.toList == ([47, 97, 92, 47, 98, 47] : List UInt8)))) else (none)) else (none)) else (none)) else (none)) else (none)) else (none)) else (none)) else (none)) else (none)) else (none)) else (none)) else (none)) = some r := H
  have A4 := Aside0.mk A40
  clear A40
  obtain ⟨rfl, rfl, rfl⟩ := diag_of (⟨#[101, 32, 61, 32, 101, 32, 34, 43, 34, 32, 101, 32, 35, 97, 100, 100, 32, 124, 32, 78, 59, 32, 35, 32, 97, 108, 108]⟩ : ByteArray) 0 (by kernel_rfl) A1.out
  obtain ⟨rfl, rfl, rfl⟩ := diag_of (⟨#[47, 97, 92, 47, 98, 47]⟩ : ByteArray) 0 (by kernel_rfl) A2.out
  obtain ⟨rfl, rfl, rfl⟩ := diag_of (⟨#[48, 49]⟩ : ByteArray) 14 (by kernel_rfl) A3.out
  obtain ⟨rfl, rfl, rfl⟩ := diag_of (⟨#[47, 97]⟩ : ByteArray) 13 (by kernel_rfl) A4.out
  by_cases c5 : ((0 : Int) == 0 && ((0 : Int) == 0 && ((⟨#[]⟩ : ByteArray).toList == ([] : List UInt8)))) = true
  · rw [if_pos c5] at H
    have c5b0 : ((0 : Int) == 0 && ((0 : Int) == 0 && ((⟨#[]⟩ : ByteArray).toList == ([] : List UInt8)))) = true := c5
    clear c5
    by_cases c6 : ((0 : Int) == 0 && ((0 : Int) == 0 && ((⟨#[]⟩ : ByteArray).toList == ([] : List UInt8)))) = true
    · rw [if_pos c6] at H
      have c6b0 : ((0 : Int) == 0 && ((0 : Int) == 0 && ((⟨#[]⟩ : ByteArray).toList == ([] : List UInt8)))) = true := c6
      clear c6
      by_cases c7 : ((14 : Int) == 14 && ((0 : Int) == 0 && ((⟨#[]⟩ : ByteArray).toList == ([] : List UInt8)))) = true
      · rw [if_pos c7] at H
        have c7b0 : ((14 : Int) == 14 && ((0 : Int) == 0 && ((⟨#[]⟩ : ByteArray).toList == ([] : List UInt8)))) = true := c7
        clear c7
        by_cases c8 : ((13 : Int) == 13 && ((0 : Int) == 0 && ((⟨#[]⟩ : ByteArray).toList == ([] : List UInt8)))) = true
        · rw [if_pos c8] at H
          have c8b0 : ((13 : Int) == 13 && ((0 : Int) == 0 && ((⟨#[]⟩ : ByteArray).toList == ([] : List UInt8)))) = true := c8
          clear c8
          by_cases c9 : (t120.length : Int) = 10
          · rw [if_pos c9] at H
            have c9b0 : ((t120.length : Int) == 10) = true := beq_iff_eq.mpr c9
            have c9b1 : ((t120.length : Int) != 10) = false := bne_eq_false_iff_eq.mpr c9
            clear c9
            by_cases c10 : 3 < (t120.length : Int)
            · rw [if_pos c10] at H
              have c10b0 : decide (3 < (t120.length : Int)) = true := decide_eq_true c10
              have c10b1 : decide (3 < t120.length) = true := decide_eq_true (by omega)
              clear c10
              by_cases c11 : (((rd_T32 t120 3).f0) == 2 && ((((rd_T32 t120 3).f1).toList) == ([43] : List UInt8) && (((rd_T32 t120 3).f2) == 6))) = true
              · rw [if_pos c11] at H
                have c11b0 : (((rd_T32 t120 3).f0) == 2 && ((((rd_T32 t120 3).f1).toList) == ([43] : List UInt8) && (((rd_T32 t120 3).f2) == 6))) = true := c11
                (try (have c11b1 : decide (((rd_T32 t120 3).f0) = 2 && ((((rd_T32 t120 3).f1).toList) == ([43] : List UInt8) && (((rd_T32 t120 3).f2) == 6))) = true := by simpa using c11))
                (try (have c11b2 : (((rd_T32 t120 3).f0) == 2 && ((((rd_T32 t120 3).f1).toList) == ([43] : List UInt8) && (((rd_T32 t120 3).f2) == 6))) = true := by simpa using c11))
                clear c11
                by_cases c12 : 5 < (t120.length : Int)
                · rw [if_pos c12] at H
                  have c12b0 : decide (5 < (t120.length : Int)) = true := decide_eq_true c12
                  have c12b1 : decide (5 < t120.length) = true := decide_eq_true (by omega)
                  clear c12
                  by_cases c13 : ((rd_T32 t120 5).f1).toList = ([35] : List UInt8)
                  · rw [if_pos c13] at H
                    have c13b0 : (((rd_T32 t120 5).f1).toList == ([35] : List UInt8)) = true := beq_iff_eq.mpr c13
                    have c13b1 : (((rd_T32 t120 5).f1).toList != ([35] : List UInt8)) = false := bne_eq_false_iff_eq.mpr c13
                    clear c13
                    by_cases c14 : (t127.length : Int) = 1
                    · rw [if_pos c14] at H
                      have c14b0 : ((t127.length : Int) == 1) = true := beq_iff_eq.mpr c14
                      have c14b1 : ((t127.length : Int) != 1) = false := bne_eq_false_iff_eq.mpr c14
                      clear c14
                      by_cases c15 : 0 < (t127.length : Int)
                      · rw [if_pos c15] at H
                        have c15b0 : decide (0 < (t127.length : Int)) = true := decide_eq_true c15
                        have c15b1 : decide (0 < t127.length) = true := decide_eq_true (by omega)
                        clear c15
                        by_cases c16 : (((rd_T32 t127 0).f0) == 3 && ((((rd_T32 t127 0).f1).toList) == ([97, 92, 47, 98] : List UInt8) && (((rd_T32 t127 0).f2) == 0))) = true
                        · rw [if_pos c16] at H
                          have c16b0 : (((rd_T32 t127 0).f0) == 3 && ((((rd_T32 t127 0).f1).toList) == ([97, 92, 47, 98] : List UInt8) && (((rd_T32 t127 0).f2) == 0))) = true := c16
                          (try (have c16b1 : decide (((rd_T32 t127 0).f0) = 3 && ((((rd_T32 t127 0).f1).toList) == ([97, 92, 47, 98] : List UInt8) && (((rd_T32 t127 0).f2) == 0))) = true := by simpa using c16))
                          (try (have c16b2 : (((rd_T32 t127 0).f0) == 3 && ((((rd_T32 t127 0).f1).toList) == ([97, 92, 47, 98] : List UInt8) && (((rd_T32 t127 0).f2) == 0))) = true := by simpa using c16))
                          clear c16
                          replace H := Option.bind_eq_some_iff.mp H
                          obtain ⟨t151, A170, H⟩ := H
                          replace H : (some (t151.toList == ([47, 97, 92, 47, 98, 47] : List UInt8))) = some r := H
                          have A17 := Aside0.mk A170
                          clear A170
                          obtain rfl := Option.some.inj H
                          go_enter Tryd.func8, Tryd.ntmps8
                          go_wp2_with (first | ((with_reducible refine gate_callee (f := 9) rfl ?_); refine goesL_ (some 10) rfl rfl Tryd.func9 (by kernel_rfl) rfl #[.string (⟨#[101, 32, 61, 32, 101, 32, 34, 43, 34, 32, 101, 32, 35, 97, 100, 100, 32, 124, 32, 78, 59, 32, 35, 32, 97, 108, 108]⟩ : ByteArray)] rfl (by (try simp only [List.map_toArray, List.map_cons, List.map_nil]); first | done | rfl | (simp only [List.length_drop, List.length_take]; rfl)) ?_; (with_reducible refine (speclex_Scan.calls k (⟨#[101, 32, 61, 32, 101, 32, 34, 43, 34, 32, 101, 32, 35, 97, 100, 100, 32, 124, 32, 78, 59, 32, 35, 32, 97, 108, 108]⟩ : ByteArray) t120 (0 : Int) (0 : Int) (⟨#[]⟩ : ByteArray) _ ?side1 A1.out).mono ?_); (case side1 => exact GW.below HGW.out (by repeat (first | (with_reducible first | exact HB.out | apply below_alloc | apply pw_below_drewN | apply below_drew1) | exact HB.out))); rintro e w18 ⟨v121, rfl, ho0, hb⟩; refine ⟨_, rfl, ?_⟩; have n0_ := Aside0.mk (Kd.R_lower ho0 (below_size (by repeat (first | (with_reducible first | exact HB.out | apply below_alloc | apply pw_below_drewN | apply below_drew1) | exact HB.out)))); have n1_ := Aside0.mk (below_step (by repeat (first | (with_reducible first | exact HB.out | apply below_alloc | apply pw_below_drewN | apply below_drew1) | exact HB.out)) hb); clear HB; have HO122 := n0_; have HB := n1_; clear n0_ n1_; (try clear hb); (try clear hb2); (try clear hk); (try clear hi); (try clear ho0)) | ((with_reducible refine gate_dst (N := 2) rfl ?_); (try (refine gate_guard (by rfl) ?_; dsimp only)); refine box_event ?hg (N := 2) ?hd (cs := #[.int .i64 0, .int .i64 0, .string (⟨#[]⟩ : ByteArray)]) (t := 26) ?hr ?_; (case hd => rfl); (case hg => rfl); (case hr => first | (go_simp; done) | (go_simp; rfl)); intro gb126 hg w19 hbox hb; have n0_ := Aside0.mk (Kd.R_below (by (with_reducible repeat (first | apply Kd.R_alloc | apply Kd.R_drewN | apply Kd.R_drew)); exact HO122.out) hb); have n1_ := Aside0.mk (below_step (by repeat (first | (with_reducible first | exact HB.out | apply below_alloc | apply pw_below_drewN | apply below_drew1) | exact HB.out)) hb); have n2_ := Aside0.mk (hbox); have n3_ := Aside0.mk ((by rw [hg]; exact (below_size (by repeat (first | (with_reducible first | exact HB.out | apply below_alloc | apply pw_below_drewN | apply below_drew1) | exact HB.out))) : w.heap.size ≤ gb126)); have n4_ := Aside0.mk ((by rw [hg]; exact (below_size (by repeat (first | (with_reducible first | exact HB.out | apply below_alloc | apply pw_below_drewN | apply below_drew1) | exact HB.out))) : w.heap.size ≤ gb126)); clear HO122; clear HB; have HO122 := n0_; have HB := n1_; have BK126 := n2_; have GW126 := n3_; have GE126 := n4_; clear n0_ n1_ n2_ n3_ n4_; clear hb hbox hg; have hcz20_0 : w19.cell? ⟨gb126, 0, none⟩ = some (.int .i64 0) := (blk_cell BK126.out 0).trans rfl; have hcz20_1 : w19.cell? ⟨gb126, 1, none⟩ = some (.int .i64 0) := (blk_cell BK126.out 1).trans rfl; have hcz20_2 : w19.cell? ⟨gb126, 2, none⟩ = some (.string (⟨#[]⟩ : ByteArray)) := (blk_cell BK126.out 2).trans rfl; have hfz20_0 := blk_frozen BK126.out 0; have hfz20_1 := blk_frozen BK126.out 1; have hfz20_2 := blk_frozen BK126.out 2) | ((with_reducible refine gate_callee (f := 9) rfl ?_); refine goesL_ (some 14) rfl rfl Tryd.func9 (by kernel_rfl) rfl #[.string (⟨#[47, 97, 92, 47, 98, 47]⟩ : ByteArray)] rfl (by (try simp only [List.map_toArray, List.map_cons, List.map_nil]); first | done | rfl | (simp only [List.length_drop, List.length_take]; rfl)) ?_; (with_reducible refine (speclex_Scan.calls k (⟨#[47, 97, 92, 47, 98, 47]⟩ : ByteArray) t127 (0 : Int) (0 : Int) (⟨#[]⟩ : ByteArray) _ ?side1 A2.out).mono ?_); (case side1 => exact GW.below HGW.out (by repeat (first | (with_reducible first | exact HB.out | apply below_alloc | apply pw_below_drewN | apply below_drew1 | refine below_set ?_ GE126.out) | exact HB.out))); rintro e w21 ⟨v128, rfl, ho0, hb⟩; refine ⟨_, rfl, ?_⟩; have n0_ := Aside0.mk (Kd.R_elder' (by (with_reducible repeat (first | apply Kd.R_alloc | apply Kd.R_drewN | apply Kd.R_drew)); exact (Kd.R_mono (Kd.R_far (p := ⟨gb126, 2, none⟩) (Kd.R_far (p := ⟨gb126, 1, none⟩) (Kd.R_far (p := ⟨gb126, 0, none⟩) (Kd.R_types HO122.out BK126.out (by decide)) (fun _ hk => hk.2) (.int .i64 (0 : Int))) (fun _ hk => hk.2) (.int .i64 (0 : Int))) (fun _ hk => hk.2) (.string (⟨#[]⟩ : ByteArray))) (fun _ h_ => h_.1))) (Kd.R_base ho0) hb); have n1_ := Aside0.mk (Kd.R_lower (Kd.R_new' ho0 (Kd.R_lt (by (with_reducible repeat (first | apply Kd.R_alloc | apply Kd.R_drewN | apply Kd.R_drew)); exact (Kd.R_mono (Kd.R_far (p := ⟨gb126, 2, none⟩) (Kd.R_far (p := ⟨gb126, 1, none⟩) (Kd.R_far (p := ⟨gb126, 0, none⟩) (Kd.R_types HO122.out BK126.out (by decide)) (fun _ hk => hk.2) (.int .i64 (0 : Int))) (fun _ hk => hk.2) (.int .i64 (0 : Int))) (fun _ hk => hk.2) (.string (⟨#[]⟩ : ByteArray))) (fun _ h_ => h_.1))))) (below_size (by repeat (first | (with_reducible first | exact HB.out | apply below_alloc | apply pw_below_drewN | apply below_drew1 | refine below_set ?_ GE126.out) | exact HB.out)))); have n2_ := Aside0.mk (blk_below (g := gb126) (o := .cells #[.int .i64 (0 : Int), .int .i64 (0 : Int), .string (⟨#[]⟩ : ByteArray)] 26 (0, 0)) (by (with_reducible repeat (first | refine blk_drewN ?_ _ | refine blk_drew ?_ | refine blk_alloc ?_ _)); refine blk_put (cs := #[.int .i64 (0 : Int), .int .i64 (0 : Int), .string (⟨#[]⟩ : ByteArray)]) ?_ 2 _ rfl; (with_reducible repeat (first | refine blk_drewN ?_ _ | refine blk_drew ?_ | refine blk_alloc ?_ _)); refine blk_put (cs := #[.int .i64 (0 : Int), .int .i64 0, .string (⟨#[]⟩ : ByteArray)]) ?_ 1 _ rfl; (with_reducible repeat (first | refine blk_drewN ?_ _ | refine blk_drew ?_ | refine blk_alloc ?_ _)); refine blk_put (cs := #[.int .i64 0, .int .i64 0, .string (⟨#[]⟩ : ByteArray)]) ?_ 0 _ rfl; (with_reducible repeat (first | refine blk_drewN ?_ _ | refine blk_drew ?_ | refine blk_alloc ?_ _)); exact BK126.out) hb); have n3_ := Aside0.mk (below_step (by repeat (first | (with_reducible first | exact HB.out | apply below_alloc | apply pw_below_drewN | apply below_drew1 | refine below_set ?_ GE126.out) | exact HB.out)) hb); clear HO122; clear BK126; clear HB; have HO122 := n0_; have HO129 := n1_; have BK126 := n2_; have HB := n3_; clear n0_ n1_ n2_ n3_; (try clear hb); (try clear hb2); (try clear hk); (try clear hi); (try clear ho0)) | ((with_reducible refine gate_dst (N := 4) rfl ?_); (try (refine gate_guard (by rfl) ?_; dsimp only)); refine box_event ?hg (N := 4) ?hd (cs := #[.int .i64 0, .int .i64 0, .string (⟨#[]⟩ : ByteArray)]) (t := 26) ?hr ?_; (case hd => rfl); (case hg => rfl); (case hr => first | (go_simp; done) | (go_simp; rfl)); intro gb133 hg w22 hbox hb; have n0_ := Aside0.mk (Kd.R_below (by (with_reducible repeat (first | apply Kd.R_alloc | apply Kd.R_drewN | apply Kd.R_drew)); exact HO122.out) hb); have n1_ := Aside0.mk (Kd.R_below (by (with_reducible repeat (first | apply Kd.R_alloc | apply Kd.R_drewN | apply Kd.R_drew)); exact HO129.out) hb); have n2_ := Aside0.mk (blk_below (g := gb126) (o := .cells #[.int .i64 (0 : Int), .int .i64 (0 : Int), .string (⟨#[]⟩ : ByteArray)] 26 (0, 0)) (by (with_reducible repeat (first | refine blk_drewN ?_ _ | refine blk_drew ?_ | refine blk_alloc ?_ _)); exact BK126.out) hb); have n3_ := Aside0.mk (below_step (by repeat (first | (with_reducible first | exact HB.out | apply below_alloc | apply pw_below_drewN | apply below_drew1 | refine below_set ?_ GE126.out) | exact HB.out)) hb); have n4_ := Aside0.mk (hbox); have n5_ := Aside0.mk ((by rw [hg]; exact (below_size (by repeat (first | (with_reducible first | exact HB.out | apply below_alloc | apply pw_below_drewN | apply below_drew1 | refine below_set ?_ GE126.out) | exact HB.out))) : w.heap.size ≤ gb133)); have n6_ := Aside0.mk ((by rw [hg]; exact (below_size (by repeat (first | (with_reducible first | exact HB.out | apply below_alloc | apply pw_below_drewN | apply below_drew1 | refine below_set ?_ GE126.out) | exact HB.out))) : w.heap.size ≤ gb133)); have n7_ := Aside0.mk ((by rw [hg]; exact Nat.ne_of_lt (blk_lt (g := gb126) (o := .cells #[.int .i64 (0 : Int), .int .i64 (0 : Int), .string (⟨#[]⟩ : ByteArray)] 26 (0, 0)) (by (with_reducible repeat (first | refine blk_drewN ?_ _ | refine blk_drew ?_ | refine blk_alloc ?_ _)); exact BK126.out)) : gb126 ≠ gb133)); have n8_ := Aside0.mk ((by rw [hg]; exact Nat.ne_of_gt (blk_lt (g := gb126) (o := .cells #[.int .i64 (0 : Int), .int .i64 (0 : Int), .string (⟨#[]⟩ : ByteArray)] 26 (0, 0)) (by (with_reducible repeat (first | refine blk_drewN ?_ _ | refine blk_drew ?_ | refine blk_alloc ?_ _)); exact BK126.out)) : gb133 ≠ gb126)); clear HO122; clear HO129; clear BK126; clear HB; have HO122 := n0_; have HO129 := n1_; have BK126 := n2_; have HB := n3_; have BK133 := n4_; have GW133 := n5_; have GE133 := n6_; have NB126_133 := n7_; have NB133_126 := n8_; clear n0_ n1_ n2_ n3_ n4_ n5_ n6_ n7_ n8_; clear hb hbox hg; have hnb23 := NB133_126.out; have hnc23 := NB126_133.out; have hcz24_0 : w22.cell? ⟨gb133, 0, none⟩ = some (.int .i64 0) := (blk_cell BK133.out 0).trans rfl; have hcz24_1 : w22.cell? ⟨gb133, 1, none⟩ = some (.int .i64 0) := (blk_cell BK133.out 1).trans rfl; have hcz24_2 : w22.cell? ⟨gb133, 2, none⟩ = some (.string (⟨#[]⟩ : ByteArray)) := (blk_cell BK133.out 2).trans rfl; have hfz24_0 := blk_frozen BK133.out 0; have hfz24_1 := blk_frozen BK133.out 1; have hfz24_2 := blk_frozen BK133.out 2) | ((with_reducible refine gate_callee (f := 9) rfl ?_); refine goesL_ (some 18) rfl rfl Tryd.func9 (by kernel_rfl) rfl #[.string (⟨#[48, 49]⟩ : ByteArray)] rfl (by (try simp only [List.map_toArray, List.map_cons, List.map_nil]); first | done | rfl | (simp only [List.length_drop, List.length_take]; rfl)) ?_; (with_reducible refine (speclex_Scan.calls k (⟨#[48, 49]⟩ : ByteArray) t134 (14 : Int) (0 : Int) (⟨#[]⟩ : ByteArray) _ ?side1 A3.out).mono ?_); (case side1 => exact GW.below HGW.out (by repeat (first | (with_reducible first | exact HB.out | apply below_alloc | apply pw_below_drewN | apply below_drew1 | refine below_set ?_ GE126.out | refine below_set ?_ GE133.out) | exact HB.out))); rintro e w25 ⟨v135, rfl, ho0, hb⟩; refine ⟨_, rfl, ?_⟩; have n0_ := Aside0.mk (Kd.R_elder' (by (with_reducible repeat (first | apply Kd.R_alloc | apply Kd.R_drewN | apply Kd.R_drew)); exact (Kd.R_mono (Kd.R_far (p := ⟨gb133, 2, none⟩) (Kd.R_far (p := ⟨gb133, 1, none⟩) (Kd.R_far (p := ⟨gb133, 0, none⟩) (Kd.R_types HO122.out BK133.out (by decide)) (fun _ hk => hk.2) (.int .i64 (0 : Int))) (fun _ hk => hk.2) (.int .i64 (0 : Int))) (fun _ hk => hk.2) (.string (⟨#[]⟩ : ByteArray))) (fun _ h_ => h_.1))) (Kd.R_base ho0) hb); have n1_ := Aside0.mk (Kd.R_elder' (by (with_reducible repeat (first | apply Kd.R_alloc | apply Kd.R_drewN | apply Kd.R_drew)); exact (Kd.R_mono (Kd.R_far (p := ⟨gb133, 2, none⟩) (Kd.R_far (p := ⟨gb133, 1, none⟩) (Kd.R_far (p := ⟨gb133, 0, none⟩) (Kd.R_types HO129.out BK133.out (by decide)) (fun _ hk => hk.2) (.int .i64 (0 : Int))) (fun _ hk => hk.2) (.int .i64 (0 : Int))) (fun _ hk => hk.2) (.string (⟨#[]⟩ : ByteArray))) (fun _ h_ => h_.1))) (Kd.R_base ho0) hb); have n2_ := Aside0.mk (Kd.R_lower (Kd.R_new' (Kd.R_new' ho0 (Kd.R_lt (by (with_reducible repeat (first | apply Kd.R_alloc | apply Kd.R_drewN | apply Kd.R_drew)); exact (Kd.R_mono (Kd.R_far (p := ⟨gb133, 2, none⟩) (Kd.R_far (p := ⟨gb133, 1, none⟩) (Kd.R_far (p := ⟨gb133, 0, none⟩) (Kd.R_types HO122.out BK133.out (by decide)) (fun _ hk => hk.2) (.int .i64 (0 : Int))) (fun _ hk => hk.2) (.int .i64 (0 : Int))) (fun _ hk => hk.2) (.string (⟨#[]⟩ : ByteArray))) (fun _ h_ => h_.1))))) (Kd.R_lt (by (with_reducible repeat (first | apply Kd.R_alloc | apply Kd.R_drewN | apply Kd.R_drew)); exact (Kd.R_mono (Kd.R_far (p := ⟨gb133, 2, none⟩) (Kd.R_far (p := ⟨gb133, 1, none⟩) (Kd.R_far (p := ⟨gb133, 0, none⟩) (Kd.R_types HO129.out BK133.out (by decide)) (fun _ hk => hk.2) (.int .i64 (0 : Int))) (fun _ hk => hk.2) (.int .i64 (0 : Int))) (fun _ hk => hk.2) (.string (⟨#[]⟩ : ByteArray))) (fun _ h_ => h_.1))))) (below_size (by repeat (first | (with_reducible first | exact HB.out | apply below_alloc | apply pw_below_drewN | apply below_drew1 | refine below_set ?_ GE126.out | refine below_set ?_ GE133.out) | exact HB.out)))); have n3_ := Aside0.mk (blk_below (g := gb126) (o := .cells #[.int .i64 (0 : Int), .int .i64 (0 : Int), .string (⟨#[]⟩ : ByteArray)] 26 (0, 0)) (by (with_reducible repeat (first | refine blk_drewN ?_ _ | refine blk_drew ?_ | refine blk_alloc ?_ _)); refine blk_far ?_ NB126_133.out _; (with_reducible repeat (first | refine blk_drewN ?_ _ | refine blk_drew ?_ | refine blk_alloc ?_ _)); refine blk_far ?_ NB126_133.out _; (with_reducible repeat (first | refine blk_drewN ?_ _ | refine blk_drew ?_ | refine blk_alloc ?_ _)); refine blk_far ?_ NB126_133.out _; (with_reducible repeat (first | refine blk_drewN ?_ _ | refine blk_drew ?_ | refine blk_alloc ?_ _)); exact BK126.out) hb); have n4_ := Aside0.mk (blk_below (g := gb133) (o := .cells #[.int .i64 (0 : Int), .int .i64 (0 : Int), .string (⟨#[]⟩ : ByteArray)] 26 (0, 0)) (by (with_reducible repeat (first | refine blk_drewN ?_ _ | refine blk_drew ?_ | refine blk_alloc ?_ _)); refine blk_put (cs := #[.int .i64 (0 : Int), .int .i64 (0 : Int), .string (⟨#[]⟩ : ByteArray)]) ?_ 2 _ rfl; (with_reducible repeat (first | refine blk_drewN ?_ _ | refine blk_drew ?_ | refine blk_alloc ?_ _)); refine blk_put (cs := #[.int .i64 (0 : Int), .int .i64 0, .string (⟨#[]⟩ : ByteArray)]) ?_ 1 _ rfl; (with_reducible repeat (first | refine blk_drewN ?_ _ | refine blk_drew ?_ | refine blk_alloc ?_ _)); refine blk_put (cs := #[.int .i64 0, .int .i64 0, .string (⟨#[]⟩ : ByteArray)]) ?_ 0 _ rfl; (with_reducible repeat (first | refine blk_drewN ?_ _ | refine blk_drew ?_ | refine blk_alloc ?_ _)); exact BK133.out) hb); have n5_ := Aside0.mk (below_step (by repeat (first | (with_reducible first | exact HB.out | apply below_alloc | apply pw_below_drewN | apply below_drew1 | refine below_set ?_ GE126.out | refine below_set ?_ GE133.out) | exact HB.out)) hb); clear HO122; clear HO129; clear BK126; clear BK133; clear HB; have HO122 := n0_; have HO129 := n1_; have HO136 := n2_; have BK126 := n3_; have BK133 := n4_; have HB := n5_; clear n0_ n1_ n2_ n3_ n4_ n5_; (try clear hb); (try clear hb2); (try clear hk); (try clear hi); (try clear ho0)) | ((with_reducible refine gate_dst (N := 6) rfl ?_); (try (refine gate_guard (by rfl) ?_; dsimp only)); refine box_event ?hg (N := 6) ?hd (cs := #[.int .i64 0, .int .i64 0, .string (⟨#[]⟩ : ByteArray)]) (t := 26) ?hr ?_; (case hd => rfl); (case hg => rfl); (case hr => first | (go_simp; done) | (go_simp; rfl)); intro gb140 hg w26 hbox hb; have n0_ := Aside0.mk (Kd.R_below (by (with_reducible repeat (first | apply Kd.R_alloc | apply Kd.R_drewN | apply Kd.R_drew)); exact HO122.out) hb); have n1_ := Aside0.mk (Kd.R_below (by (with_reducible repeat (first | apply Kd.R_alloc | apply Kd.R_drewN | apply Kd.R_drew)); exact HO129.out) hb); have n2_ := Aside0.mk (Kd.R_below (by (with_reducible repeat (first | apply Kd.R_alloc | apply Kd.R_drewN | apply Kd.R_drew)); exact HO136.out) hb); have n3_ := Aside0.mk (blk_below (g := gb126) (o := .cells #[.int .i64 (0 : Int), .int .i64 (0 : Int), .string (⟨#[]⟩ : ByteArray)] 26 (0, 0)) (by (with_reducible repeat (first | refine blk_drewN ?_ _ | refine blk_drew ?_ | refine blk_alloc ?_ _)); exact BK126.out) hb); have n4_ := Aside0.mk (blk_below (g := gb133) (o := .cells #[.int .i64 (0 : Int), .int .i64 (0 : Int), .string (⟨#[]⟩ : ByteArray)] 26 (0, 0)) (by (with_reducible repeat (first | refine blk_drewN ?_ _ | refine blk_drew ?_ | refine blk_alloc ?_ _)); exact BK133.out) hb); have n5_ := Aside0.mk (below_step (by repeat (first | (with_reducible first | exact HB.out | apply below_alloc | apply pw_below_drewN | apply below_drew1 | refine below_set ?_ GE126.out | refine below_set ?_ GE133.out) | exact HB.out)) hb); have n6_ := Aside0.mk (hbox); have n7_ := Aside0.mk ((by rw [hg]; exact (below_size (by repeat (first | (with_reducible first | exact HB.out | apply below_alloc | apply pw_below_drewN | apply below_drew1 | refine below_set ?_ GE126.out | refine below_set ?_ GE133.out) | exact HB.out))) : w.heap.size ≤ gb140)); have n8_ := Aside0.mk ((by rw [hg]; exact (below_size (by repeat (first | (with_reducible first | exact HB.out | apply below_alloc | apply pw_below_drewN | apply below_drew1 | refine below_set ?_ GE126.out | refine below_set ?_ GE133.out) | exact HB.out))) : w.heap.size ≤ gb140)); have n9_ := Aside0.mk ((by rw [hg]; exact Nat.ne_of_lt (blk_lt (g := gb126) (o := .cells #[.int .i64 (0 : Int), .int .i64 (0 : Int), .string (⟨#[]⟩ : ByteArray)] 26 (0, 0)) (by (with_reducible repeat (first | refine blk_drewN ?_ _ | refine blk_drew ?_ | refine blk_alloc ?_ _)); exact BK126.out)) : gb126 ≠ gb140)); have n10_ := Aside0.mk ((by rw [hg]; exact Nat.ne_of_gt (blk_lt (g := gb126) (o := .cells #[.int .i64 (0 : Int), .int .i64 (0 : Int), .string (⟨#[]⟩ : ByteArray)] 26 (0, 0)) (by (with_reducible repeat (first | refine blk_drewN ?_ _ | refine blk_drew ?_ | refine blk_alloc ?_ _)); exact BK126.out)) : gb140 ≠ gb126)); have n11_ := Aside0.mk ((by rw [hg]; exact Nat.ne_of_lt (blk_lt (g := gb133) (o := .cells #[.int .i64 (0 : Int), .int .i64 (0 : Int), .string (⟨#[]⟩ : ByteArray)] 26 (0, 0)) (by (with_reducible repeat (first | refine blk_drewN ?_ _ | refine blk_drew ?_ | refine blk_alloc ?_ _)); exact BK133.out)) : gb133 ≠ gb140)); have n12_ := Aside0.mk ((by rw [hg]; exact Nat.ne_of_gt (blk_lt (g := gb133) (o := .cells #[.int .i64 (0 : Int), .int .i64 (0 : Int), .string (⟨#[]⟩ : ByteArray)] 26 (0, 0)) (by (with_reducible repeat (first | refine blk_drewN ?_ _ | refine blk_drew ?_ | refine blk_alloc ?_ _)); exact BK133.out)) : gb140 ≠ gb133)); clear HO122; clear HO129; clear HO136; clear BK126; clear BK133; clear HB; have HO122 := n0_; have HO129 := n1_; have HO136 := n2_; have BK126 := n3_; have BK133 := n4_; have HB := n5_; have BK140 := n6_; have GW140 := n7_; have GE140 := n8_; have NB126_140 := n9_; have NB140_126 := n10_; have NB133_140 := n11_; have NB140_133 := n12_; clear n0_ n1_ n2_ n3_ n4_ n5_ n6_ n7_ n8_ n9_ n10_ n11_ n12_; clear hb hbox hg; have hnb27 := NB140_126.out; have hnc27 := NB126_140.out; have hnb28 := NB140_133.out; have hnc28 := NB133_140.out; have hcz29_0 : w26.cell? ⟨gb140, 0, none⟩ = some (.int .i64 0) := (blk_cell BK140.out 0).trans rfl; have hcz29_1 : w26.cell? ⟨gb140, 1, none⟩ = some (.int .i64 0) := (blk_cell BK140.out 1).trans rfl; have hcz29_2 : w26.cell? ⟨gb140, 2, none⟩ = some (.string (⟨#[]⟩ : ByteArray)) := (blk_cell BK140.out 2).trans rfl; have hfz29_0 := blk_frozen BK140.out 0; have hfz29_1 := blk_frozen BK140.out 1; have hfz29_2 := blk_frozen BK140.out 2) | ((with_reducible refine gate_callee (f := 9) rfl ?_); refine goesL_ (some 22) rfl rfl Tryd.func9 (by kernel_rfl) rfl #[.string (⟨#[47, 97]⟩ : ByteArray)] rfl (by (try simp only [List.map_toArray, List.map_cons, List.map_nil]); first | done | rfl | (simp only [List.length_drop, List.length_take]; rfl)) ?_; (with_reducible refine (speclex_Scan.calls k (⟨#[47, 97]⟩ : ByteArray) t141 (13 : Int) (0 : Int) (⟨#[]⟩ : ByteArray) _ ?side1 A4.out).mono ?_); (case side1 => exact GW.below HGW.out (by repeat (first | (with_reducible first | exact HB.out | apply below_alloc | apply pw_below_drewN | apply below_drew1 | refine below_set ?_ GE126.out | refine below_set ?_ GE133.out | refine below_set ?_ GE140.out) | exact HB.out))); rintro e w30 ⟨v142, rfl, ho0, hb⟩; refine ⟨_, rfl, ?_⟩; have n0_ := Aside0.mk (Kd.R_elder' (by (with_reducible repeat (first | apply Kd.R_alloc | apply Kd.R_drewN | apply Kd.R_drew)); exact (Kd.R_mono (Kd.R_far (p := ⟨gb140, 2, none⟩) (Kd.R_far (p := ⟨gb140, 1, none⟩) (Kd.R_far (p := ⟨gb140, 0, none⟩) (Kd.R_types HO122.out BK140.out (by decide)) (fun _ hk => hk.2) (.int .i64 (14 : Int))) (fun _ hk => hk.2) (.int .i64 (0 : Int))) (fun _ hk => hk.2) (.string (⟨#[]⟩ : ByteArray))) (fun _ h_ => h_.1))) (Kd.R_base ho0) hb); have n1_ := Aside0.mk (Kd.R_elder' (by (with_reducible repeat (first | apply Kd.R_alloc | apply Kd.R_drewN | apply Kd.R_drew)); exact (Kd.R_mono (Kd.R_far (p := ⟨gb140, 2, none⟩) (Kd.R_far (p := ⟨gb140, 1, none⟩) (Kd.R_far (p := ⟨gb140, 0, none⟩) (Kd.R_types HO129.out BK140.out (by decide)) (fun _ hk => hk.2) (.int .i64 (14 : Int))) (fun _ hk => hk.2) (.int .i64 (0 : Int))) (fun _ hk => hk.2) (.string (⟨#[]⟩ : ByteArray))) (fun _ h_ => h_.1))) (Kd.R_base ho0) hb); have n2_ := Aside0.mk (Kd.R_elder' (by (with_reducible repeat (first | apply Kd.R_alloc | apply Kd.R_drewN | apply Kd.R_drew)); exact (Kd.R_mono (Kd.R_far (p := ⟨gb140, 2, none⟩) (Kd.R_far (p := ⟨gb140, 1, none⟩) (Kd.R_far (p := ⟨gb140, 0, none⟩) (Kd.R_types HO136.out BK140.out (by decide)) (fun _ hk => hk.2) (.int .i64 (14 : Int))) (fun _ hk => hk.2) (.int .i64 (0 : Int))) (fun _ hk => hk.2) (.string (⟨#[]⟩ : ByteArray))) (fun _ h_ => h_.1))) (Kd.R_base ho0) hb); have n3_ := Aside0.mk (Kd.R_lower (Kd.R_new' (Kd.R_new' (Kd.R_new' ho0 (Kd.R_lt (by (with_reducible repeat (first | apply Kd.R_alloc | apply Kd.R_drewN | apply Kd.R_drew)); exact (Kd.R_mono (Kd.R_far (p := ⟨gb140, 2, none⟩) (Kd.R_far (p := ⟨gb140, 1, none⟩) (Kd.R_far (p := ⟨gb140, 0, none⟩) (Kd.R_types HO122.out BK140.out (by decide)) (fun _ hk => hk.2) (.int .i64 (14 : Int))) (fun _ hk => hk.2) (.int .i64 (0 : Int))) (fun _ hk => hk.2) (.string (⟨#[]⟩ : ByteArray))) (fun _ h_ => h_.1))))) (Kd.R_lt (by (with_reducible repeat (first | apply Kd.R_alloc | apply Kd.R_drewN | apply Kd.R_drew)); exact (Kd.R_mono (Kd.R_far (p := ⟨gb140, 2, none⟩) (Kd.R_far (p := ⟨gb140, 1, none⟩) (Kd.R_far (p := ⟨gb140, 0, none⟩) (Kd.R_types HO129.out BK140.out (by decide)) (fun _ hk => hk.2) (.int .i64 (14 : Int))) (fun _ hk => hk.2) (.int .i64 (0 : Int))) (fun _ hk => hk.2) (.string (⟨#[]⟩ : ByteArray))) (fun _ h_ => h_.1))))) (Kd.R_lt (by (with_reducible repeat (first | apply Kd.R_alloc | apply Kd.R_drewN | apply Kd.R_drew)); exact (Kd.R_mono (Kd.R_far (p := ⟨gb140, 2, none⟩) (Kd.R_far (p := ⟨gb140, 1, none⟩) (Kd.R_far (p := ⟨gb140, 0, none⟩) (Kd.R_types HO136.out BK140.out (by decide)) (fun _ hk => hk.2) (.int .i64 (14 : Int))) (fun _ hk => hk.2) (.int .i64 (0 : Int))) (fun _ hk => hk.2) (.string (⟨#[]⟩ : ByteArray))) (fun _ h_ => h_.1))))) (below_size (by repeat (first | (with_reducible first | exact HB.out | apply below_alloc | apply pw_below_drewN | apply below_drew1 | refine below_set ?_ GE126.out | refine below_set ?_ GE133.out | refine below_set ?_ GE140.out) | exact HB.out)))); have n4_ := Aside0.mk (blk_below (g := gb126) (o := .cells #[.int .i64 (0 : Int), .int .i64 (0 : Int), .string (⟨#[]⟩ : ByteArray)] 26 (0, 0)) (by (with_reducible repeat (first | refine blk_drewN ?_ _ | refine blk_drew ?_ | refine blk_alloc ?_ _)); refine blk_far ?_ NB126_140.out _; (with_reducible repeat (first | refine blk_drewN ?_ _ | refine blk_drew ?_ | refine blk_alloc ?_ _)); refine blk_far ?_ NB126_140.out _; (with_reducible repeat (first | refine blk_drewN ?_ _ | refine blk_drew ?_ | refine blk_alloc ?_ _)); refine blk_far ?_ NB126_140.out _; (with_reducible repeat (first | refine blk_drewN ?_ _ | refine blk_drew ?_ | refine blk_alloc ?_ _)); exact BK126.out) hb); have n5_ := Aside0.mk (blk_below (g := gb133) (o := .cells #[.int .i64 (0 : Int), .int .i64 (0 : Int), .string (⟨#[]⟩ : ByteArray)] 26 (0, 0)) (by (with_reducible repeat (first | refine blk_drewN ?_ _ | refine blk_drew ?_ | refine blk_alloc ?_ _)); refine blk_far ?_ NB133_140.out _; (with_reducible repeat (first | refine blk_drewN ?_ _ | refine blk_drew ?_ | refine blk_alloc ?_ _)); refine blk_far ?_ NB133_140.out _; (with_reducible repeat (first | refine blk_drewN ?_ _ | refine blk_drew ?_ | refine blk_alloc ?_ _)); refine blk_far ?_ NB133_140.out _; (with_reducible repeat (first | refine blk_drewN ?_ _ | refine blk_drew ?_ | refine blk_alloc ?_ _)); exact BK133.out) hb); have n6_ := Aside0.mk (blk_below (g := gb140) (o := .cells #[.int .i64 (14 : Int), .int .i64 (0 : Int), .string (⟨#[]⟩ : ByteArray)] 26 (0, 0)) (by (with_reducible repeat (first | refine blk_drewN ?_ _ | refine blk_drew ?_ | refine blk_alloc ?_ _)); refine blk_put (cs := #[.int .i64 (14 : Int), .int .i64 (0 : Int), .string (⟨#[]⟩ : ByteArray)]) ?_ 2 _ rfl; (with_reducible repeat (first | refine blk_drewN ?_ _ | refine blk_drew ?_ | refine blk_alloc ?_ _)); refine blk_put (cs := #[.int .i64 (14 : Int), .int .i64 0, .string (⟨#[]⟩ : ByteArray)]) ?_ 1 _ rfl; (with_reducible repeat (first | refine blk_drewN ?_ _ | refine blk_drew ?_ | refine blk_alloc ?_ _)); refine blk_put (cs := #[.int .i64 0, .int .i64 0, .string (⟨#[]⟩ : ByteArray)]) ?_ 0 _ rfl; (with_reducible repeat (first | refine blk_drewN ?_ _ | refine blk_drew ?_ | refine blk_alloc ?_ _)); exact BK140.out) hb); have n7_ := Aside0.mk (below_step (by repeat (first | (with_reducible first | exact HB.out | apply below_alloc | apply pw_below_drewN | apply below_drew1 | refine below_set ?_ GE126.out | refine below_set ?_ GE133.out | refine below_set ?_ GE140.out) | exact HB.out)) hb); clear HO122; clear HO129; clear HO136; clear BK126; clear BK133; clear BK140; clear HB; have HO122 := n0_; have HO129 := n1_; have HO136 := n2_; have HO143 := n3_; have BK126 := n4_; have BK133 := n5_; have BK140 := n6_; have HB := n7_; clear n0_ n1_ n2_ n3_ n4_ n5_ n6_ n7_; (try clear hb); (try clear hb2); (try clear hk); (try clear hi); (try clear ho0)) | ((with_reducible refine gate_dst (N := 8) rfl ?_); (try (refine gate_guard (by rfl) ?_; dsimp only)); refine box_event ?hg (N := 8) ?hd (cs := #[.int .i64 0, .int .i64 0, .string (⟨#[]⟩ : ByteArray)]) (t := 26) ?hr ?_; (case hd => rfl); (case hg => rfl); (case hr => first | (go_simp; done) | (go_simp; rfl)); intro gb147 hg w31 hbox hb; have n0_ := Aside0.mk (Kd.R_below (by (with_reducible repeat (first | apply Kd.R_alloc | apply Kd.R_drewN | apply Kd.R_drew)); exact HO122.out) hb); have n1_ := Aside0.mk (Kd.R_below (by (with_reducible repeat (first | apply Kd.R_alloc | apply Kd.R_drewN | apply Kd.R_drew)); exact HO129.out) hb); have n2_ := Aside0.mk (Kd.R_below (by (with_reducible repeat (first | apply Kd.R_alloc | apply Kd.R_drewN | apply Kd.R_drew)); exact HO136.out) hb); have n3_ := Aside0.mk (Kd.R_below (by (with_reducible repeat (first | apply Kd.R_alloc | apply Kd.R_drewN | apply Kd.R_drew)); exact HO143.out) hb); have n4_ := Aside0.mk (blk_below (g := gb126) (o := .cells #[.int .i64 (0 : Int), .int .i64 (0 : Int), .string (⟨#[]⟩ : ByteArray)] 26 (0, 0)) (by (with_reducible repeat (first | refine blk_drewN ?_ _ | refine blk_drew ?_ | refine blk_alloc ?_ _)); exact BK126.out) hb); have n5_ := Aside0.mk (blk_below (g := gb133) (o := .cells #[.int .i64 (0 : Int), .int .i64 (0 : Int), .string (⟨#[]⟩ : ByteArray)] 26 (0, 0)) (by (with_reducible repeat (first | refine blk_drewN ?_ _ | refine blk_drew ?_ | refine blk_alloc ?_ _)); exact BK133.out) hb); have n6_ := Aside0.mk (blk_below (g := gb140) (o := .cells #[.int .i64 (14 : Int), .int .i64 (0 : Int), .string (⟨#[]⟩ : ByteArray)] 26 (0, 0)) (by (with_reducible repeat (first | refine blk_drewN ?_ _ | refine blk_drew ?_ | refine blk_alloc ?_ _)); exact BK140.out) hb); have n7_ := Aside0.mk (below_step (by repeat (first | (with_reducible first | exact HB.out | apply below_alloc | apply pw_below_drewN | apply below_drew1 | refine below_set ?_ GE126.out | refine below_set ?_ GE133.out | refine below_set ?_ GE140.out) | exact HB.out)) hb); have n8_ := Aside0.mk (hbox); have n9_ := Aside0.mk ((by rw [hg]; exact (below_size (by repeat (first | (with_reducible first | exact HB.out | apply below_alloc | apply pw_below_drewN | apply below_drew1 | refine below_set ?_ GE126.out | refine below_set ?_ GE133.out | refine below_set ?_ GE140.out) | exact HB.out))) : w.heap.size ≤ gb147)); have n10_ := Aside0.mk ((by rw [hg]; exact (below_size (by repeat (first | (with_reducible first | exact HB.out | apply below_alloc | apply pw_below_drewN | apply below_drew1 | refine below_set ?_ GE126.out | refine below_set ?_ GE133.out | refine below_set ?_ GE140.out) | exact HB.out))) : w.heap.size ≤ gb147)); have n11_ := Aside0.mk ((by rw [hg]; exact Nat.ne_of_lt (blk_lt (g := gb126) (o := .cells #[.int .i64 (0 : Int), .int .i64 (0 : Int), .string (⟨#[]⟩ : ByteArray)] 26 (0, 0)) (by (with_reducible repeat (first | refine blk_drewN ?_ _ | refine blk_drew ?_ | refine blk_alloc ?_ _)); exact BK126.out)) : gb126 ≠ gb147)); have n12_ := Aside0.mk ((by rw [hg]; exact Nat.ne_of_gt (blk_lt (g := gb126) (o := .cells #[.int .i64 (0 : Int), .int .i64 (0 : Int), .string (⟨#[]⟩ : ByteArray)] 26 (0, 0)) (by (with_reducible repeat (first | refine blk_drewN ?_ _ | refine blk_drew ?_ | refine blk_alloc ?_ _)); exact BK126.out)) : gb147 ≠ gb126)); have n13_ := Aside0.mk ((by rw [hg]; exact Nat.ne_of_lt (blk_lt (g := gb133) (o := .cells #[.int .i64 (0 : Int), .int .i64 (0 : Int), .string (⟨#[]⟩ : ByteArray)] 26 (0, 0)) (by (with_reducible repeat (first | refine blk_drewN ?_ _ | refine blk_drew ?_ | refine blk_alloc ?_ _)); exact BK133.out)) : gb133 ≠ gb147)); have n14_ := Aside0.mk ((by rw [hg]; exact Nat.ne_of_gt (blk_lt (g := gb133) (o := .cells #[.int .i64 (0 : Int), .int .i64 (0 : Int), .string (⟨#[]⟩ : ByteArray)] 26 (0, 0)) (by (with_reducible repeat (first | refine blk_drewN ?_ _ | refine blk_drew ?_ | refine blk_alloc ?_ _)); exact BK133.out)) : gb147 ≠ gb133)); have n15_ := Aside0.mk ((by rw [hg]; exact Nat.ne_of_lt (blk_lt (g := gb140) (o := .cells #[.int .i64 (14 : Int), .int .i64 (0 : Int), .string (⟨#[]⟩ : ByteArray)] 26 (0, 0)) (by (with_reducible repeat (first | refine blk_drewN ?_ _ | refine blk_drew ?_ | refine blk_alloc ?_ _)); exact BK140.out)) : gb140 ≠ gb147)); have n16_ := Aside0.mk ((by rw [hg]; exact Nat.ne_of_gt (blk_lt (g := gb140) (o := .cells #[.int .i64 (14 : Int), .int .i64 (0 : Int), .string (⟨#[]⟩ : ByteArray)] 26 (0, 0)) (by (with_reducible repeat (first | refine blk_drewN ?_ _ | refine blk_drew ?_ | refine blk_alloc ?_ _)); exact BK140.out)) : gb147 ≠ gb140)); clear HO122; clear HO129; clear HO136; clear HO143; clear BK126; clear BK133; clear BK140; clear HB; have HO122 := n0_; have HO129 := n1_; have HO136 := n2_; have HO143 := n3_; have BK126 := n4_; have BK133 := n5_; have BK140 := n6_; have HB := n7_; have BK147 := n8_; have GW147 := n9_; have GE147 := n10_; have NB126_147 := n11_; have NB147_126 := n12_; have NB133_147 := n13_; have NB147_133 := n14_; have NB140_147 := n15_; have NB147_140 := n16_; clear n0_ n1_ n2_ n3_ n4_ n5_ n6_ n7_ n8_ n9_ n10_ n11_ n12_ n13_ n14_ n15_ n16_; clear hb hbox hg; have hnb32 := NB147_126.out; have hnc32 := NB126_147.out; have hnb33 := NB147_133.out; have hnc33 := NB133_147.out; have hnb34 := NB147_140.out; have hnc34 := NB140_147.out; have hcz35_0 : w31.cell? ⟨gb147, 0, none⟩ = some (.int .i64 0) := (blk_cell BK147.out 0).trans rfl; have hcz35_1 : w31.cell? ⟨gb147, 1, none⟩ = some (.int .i64 0) := (blk_cell BK147.out 1).trans rfl; have hcz35_2 : w31.cell? ⟨gb147, 2, none⟩ = some (.string (⟨#[]⟩ : ByteArray)) := (blk_cell BK147.out 2).trans rfl; have hfz35_0 := blk_frozen BK147.out 0; have hfz35_1 := blk_frozen BK147.out 1; have hfz35_2 := blk_frozen BK147.out 2; have hcz36_0 : w31.cell? ⟨gb126, 0, none⟩ = some (.int .i64 (0 : Int)) := (blk_cell BK126.out 0).trans rfl; have hcz36_1 : w31.cell? ⟨gb126, 1, none⟩ = some (.int .i64 (0 : Int)) := (blk_cell BK126.out 1).trans rfl; have hcz36_2 : w31.cell? ⟨gb126, 2, none⟩ = some (.string (⟨#[]⟩ : ByteArray)) := (blk_cell BK126.out 2).trans rfl; have hfz36_0 := blk_frozen BK126.out 0; have hfz36_1 := blk_frozen BK126.out 1; have hfz36_2 := blk_frozen BK126.out 2; have hcz37_0 : w31.cell? ⟨gb133, 0, none⟩ = some (.int .i64 (0 : Int)) := (blk_cell BK133.out 0).trans rfl; have hcz37_1 : w31.cell? ⟨gb133, 1, none⟩ = some (.int .i64 (0 : Int)) := (blk_cell BK133.out 1).trans rfl; have hcz37_2 : w31.cell? ⟨gb133, 2, none⟩ = some (.string (⟨#[]⟩ : ByteArray)) := (blk_cell BK133.out 2).trans rfl; have hfz37_0 := blk_frozen BK133.out 0; have hfz37_1 := blk_frozen BK133.out 1; have hfz37_2 := blk_frozen BK133.out 2; have hcz38_0 : w31.cell? ⟨gb140, 0, none⟩ = some (.int .i64 (14 : Int)) := (blk_cell BK140.out 0).trans rfl; have hcz38_1 : w31.cell? ⟨gb140, 1, none⟩ = some (.int .i64 (0 : Int)) := (blk_cell BK140.out 1).trans rfl; have hcz38_2 : w31.cell? ⟨gb140, 2, none⟩ = some (.string (⟨#[]⟩ : ByteArray)) := (blk_cell BK140.out 2).trans rfl; have hfz38_0 := blk_frozen BK140.out 0; have hfz38_1 := blk_frozen BK140.out 1; have hfz38_2 := blk_frozen BK140.out 2; obtain ⟨Ao39, co39, eo39⟩ := Kd.R_slice HO122.out; subst eo39; have p148 : 0 ≤ (3 : Int) := (by omega); have q148 : 3 < (t120.length : Int) := of_decide_eq_true (by first | (with_reducible assumption) | assumption); obtain ⟨ad148, e148, hx148_0, hx148_1, hx148_2⟩ := at_T32 (Kd.R_reads' HO122.out).2.2 3 p148 q148; cases e148; (try simp only [show (3 : Int).toNat = 3 from rfl, Nat.reduceMul, Nat.reduceEqDiff, Go.Addr.add, ↓reduceIte] at hx148_0); (try simp only [show (3 : Int).toNat = 3 from rfl, Nat.reduceMul, Nat.reduceEqDiff, Go.Addr.add, ↓reduceIte] at hx148_1); (try simp only [show (3 : Int).toNat = 3 from rfl, Nat.reduceMul, Nat.reduceEqDiff, Go.Addr.add, ↓reduceIte] at hx148_2); have qi148 : (3 < t120.length) = True := eq_true (by omega); (try rw [show ((3 : Int)).toNat = 3 from rfl] at hx148_0); (try rw [show 3 * 3 = 9 from rfl] at hx148_0); (try rw [show ((3 : Int)).toNat = 3 from rfl] at hx148_1); (try rw [show 3 * 3 = 9 from rfl] at hx148_1); (try rw [show ((3 : Int)).toNat = 3 from rfl] at hx148_2); (try rw [show 3 * 3 = 9 from rfl] at hx148_2); have hn148_0 : ad148.block ≠ gb147 := Kd.own_blk (Kd.R_ne HO122.out BK147.out (by decide)); have hn148_1 : ad148.block ≠ gb147 := Kd.own_blk (Kd.R_ne HO122.out BK147.out (by decide)); have hn148_2 : ad148.block ≠ gb147 := Kd.own_blk (Kd.R_ne HO122.out BK147.out (by decide)); replace hx148_0 := (cell_far (p := ⟨gb147, 0, none⟩) (by first | (rw [add_block]; exact hn148_0) | (show (Addr.add _ _).block ≠ _; rw [add_block]; exact hn148_0) | exact hn148_0) (.int .i64 (13 : Int))).trans hx148_0; replace hx148_1 := (cell_far (p := ⟨gb147, 0, none⟩) (by first | (rw [add_block]; exact hn148_0) | (show (Addr.add _ _).block ≠ _; rw [add_block]; exact hn148_0) | exact hn148_0) (.int .i64 (13 : Int))).trans hx148_1; replace hx148_2 := (cell_far (p := ⟨gb147, 0, none⟩) (by first | (rw [add_block]; exact hn148_0) | (show (Addr.add _ _).block ≠ _; rw [add_block]; exact hn148_0) | exact hn148_0) (.int .i64 (13 : Int))).trans hx148_2; replace hx148_0 := (cell_far (p := ⟨gb147, 1, none⟩) (by first | (rw [add_block]; exact hn148_1) | (show (Addr.add _ _).block ≠ _; rw [add_block]; exact hn148_1) | exact hn148_1) (.int .i64 (0 : Int))).trans hx148_0; replace hx148_1 := (cell_far (p := ⟨gb147, 1, none⟩) (by first | (rw [add_block]; exact hn148_1) | (show (Addr.add _ _).block ≠ _; rw [add_block]; exact hn148_1) | exact hn148_1) (.int .i64 (0 : Int))).trans hx148_1; replace hx148_2 := (cell_far (p := ⟨gb147, 1, none⟩) (by first | (rw [add_block]; exact hn148_1) | (show (Addr.add _ _).block ≠ _; rw [add_block]; exact hn148_1) | exact hn148_1) (.int .i64 (0 : Int))).trans hx148_2; replace hx148_0 := (cell_far (p := ⟨gb147, 2, none⟩) (by first | (rw [add_block]; exact hn148_2) | (show (Addr.add _ _).block ≠ _; rw [add_block]; exact hn148_2) | exact hn148_2) (.string (⟨#[]⟩ : ByteArray))).trans hx148_0; replace hx148_1 := (cell_far (p := ⟨gb147, 2, none⟩) (by first | (rw [add_block]; exact hn148_2) | (show (Addr.add _ _).block ≠ _; rw [add_block]; exact hn148_2) | exact hn148_2) (.string (⟨#[]⟩ : ByteArray))).trans hx148_1; replace hx148_2 := (cell_far (p := ⟨gb147, 2, none⟩) (by first | (rw [add_block]; exact hn148_2) | (show (Addr.add _ _).block ≠ _; rw [add_block]; exact hn148_2) | exact hn148_2) (.string (⟨#[]⟩ : ByteArray))).trans hx148_2; clear hn148_0; clear hn148_1; clear hn148_2; replace p148 := eq_true p148; replace q148 := eq_true q148; have p149 : 0 ≤ (5 : Int) := (by omega); have q149 : 5 < (t120.length : Int) := of_decide_eq_true (by first | (with_reducible assumption) | assumption); obtain ⟨ad149, e149, hx149_0, hx149_1, hx149_2⟩ := at_T32 (Kd.R_reads' HO122.out).2.2 5 p149 q149; obtain rfl : ad148 = ad149 := (by injection e149); (try simp only [show (5 : Int).toNat = 5 from rfl, Nat.reduceMul, Nat.reduceEqDiff, Go.Addr.add, ↓reduceIte] at hx149_0); (try simp only [show (5 : Int).toNat = 5 from rfl, Nat.reduceMul, Nat.reduceEqDiff, Go.Addr.add, ↓reduceIte] at hx149_1); (try simp only [show (5 : Int).toNat = 5 from rfl, Nat.reduceMul, Nat.reduceEqDiff, Go.Addr.add, ↓reduceIte] at hx149_2); have qi149 : (5 < t120.length) = True := eq_true (by omega); (try rw [show ((5 : Int)).toNat = 5 from rfl] at hx149_0); (try rw [show 5 * 3 = 15 from rfl] at hx149_0); (try rw [show ((5 : Int)).toNat = 5 from rfl] at hx149_1); (try rw [show 5 * 3 = 15 from rfl] at hx149_1); (try rw [show ((5 : Int)).toNat = 5 from rfl] at hx149_2); (try rw [show 5 * 3 = 15 from rfl] at hx149_2); have hn149_0 : ad148.block ≠ gb147 := Kd.own_blk (Kd.R_ne HO122.out BK147.out (by decide)); have hn149_1 : ad148.block ≠ gb147 := Kd.own_blk (Kd.R_ne HO122.out BK147.out (by decide)); have hn149_2 : ad148.block ≠ gb147 := Kd.own_blk (Kd.R_ne HO122.out BK147.out (by decide)); replace hx149_0 := (cell_far (p := ⟨gb147, 0, none⟩) (by first | (rw [add_block]; exact hn149_0) | (show (Addr.add _ _).block ≠ _; rw [add_block]; exact hn149_0) | exact hn149_0) (.int .i64 (13 : Int))).trans hx149_0; replace hx149_1 := (cell_far (p := ⟨gb147, 0, none⟩) (by first | (rw [add_block]; exact hn149_0) | (show (Addr.add _ _).block ≠ _; rw [add_block]; exact hn149_0) | exact hn149_0) (.int .i64 (13 : Int))).trans hx149_1; replace hx149_2 := (cell_far (p := ⟨gb147, 0, none⟩) (by first | (rw [add_block]; exact hn149_0) | (show (Addr.add _ _).block ≠ _; rw [add_block]; exact hn149_0) | exact hn149_0) (.int .i64 (13 : Int))).trans hx149_2; replace hx149_0 := (cell_far (p := ⟨gb147, 1, none⟩) (by first | (rw [add_block]; exact hn149_1) | (show (Addr.add _ _).block ≠ _; rw [add_block]; exact hn149_1) | exact hn149_1) (.int .i64 (0 : Int))).trans hx149_0; replace hx149_1 := (cell_far (p := ⟨gb147, 1, none⟩) (by first | (rw [add_block]; exact hn149_1) | (show (Addr.add _ _).block ≠ _; rw [add_block]; exact hn149_1) | exact hn149_1) (.int .i64 (0 : Int))).trans hx149_1; replace hx149_2 := (cell_far (p := ⟨gb147, 1, none⟩) (by first | (rw [add_block]; exact hn149_1) | (show (Addr.add _ _).block ≠ _; rw [add_block]; exact hn149_1) | exact hn149_1) (.int .i64 (0 : Int))).trans hx149_2; replace hx149_0 := (cell_far (p := ⟨gb147, 2, none⟩) (by first | (rw [add_block]; exact hn149_2) | (show (Addr.add _ _).block ≠ _; rw [add_block]; exact hn149_2) | exact hn149_2) (.string (⟨#[]⟩ : ByteArray))).trans hx149_0; replace hx149_1 := (cell_far (p := ⟨gb147, 2, none⟩) (by first | (rw [add_block]; exact hn149_2) | (show (Addr.add _ _).block ≠ _; rw [add_block]; exact hn149_2) | exact hn149_2) (.string (⟨#[]⟩ : ByteArray))).trans hx149_1; replace hx149_2 := (cell_far (p := ⟨gb147, 2, none⟩) (by first | (rw [add_block]; exact hn149_2) | (show (Addr.add _ _).block ≠ _; rw [add_block]; exact hn149_2) | exact hn149_2) (.string (⟨#[]⟩ : ByteArray))).trans hx149_2; clear hn149_0; clear hn149_1; clear hn149_2; replace p149 := eq_true p149; replace q149 := eq_true q149; obtain ⟨Ao40, co40, eo40⟩ := Kd.R_slice HO129.out; subst eo40; have p150 : 0 ≤ (0 : Int) := (by omega); have q150 : 0 < (t127.length : Int) := of_decide_eq_true (by first | (with_reducible assumption) | assumption); obtain ⟨ad150, e150, hx150_0, hx150_1, hx150_2⟩ := at_T32 (Kd.R_reads' HO129.out).2.2 0 p150 q150; cases e150; have qi150 : (0 < t127.length) = True := eq_true (by omega); (try rw [show ((0 : Int)).toNat = 0 from rfl] at hx150_0); (try rw [show 0 * 3 = 0 from rfl] at hx150_0); (try rw [Addr.add_zero'] at hx150_0); (try rw [show ((0 : Int)).toNat = 0 from rfl] at hx150_1); (try rw [show 0 * 3 = 0 from rfl] at hx150_1); (try rw [Addr.add_zero'] at hx150_1); (try rw [show ((0 : Int)).toNat = 0 from rfl] at hx150_2); (try rw [show 0 * 3 = 0 from rfl] at hx150_2); (try rw [Addr.add_zero'] at hx150_2); have hn150_0 : ad150.block ≠ gb147 := Kd.own_blk (Kd.R_ne HO129.out BK147.out (by decide)); have hn150_1 : ad150.block ≠ gb147 := Kd.own_blk (Kd.R_ne HO129.out BK147.out (by decide)); have hn150_2 : ad150.block ≠ gb147 := Kd.own_blk (Kd.R_ne HO129.out BK147.out (by decide)); replace hx150_0 := (cell_far (p := ⟨gb147, 0, none⟩) (by first | (rw [add_block]; exact hn150_0) | (show (Addr.add _ _).block ≠ _; rw [add_block]; exact hn150_0) | exact hn150_0) (.int .i64 (13 : Int))).trans hx150_0; replace hx150_1 := (cell_far (p := ⟨gb147, 0, none⟩) (by first | (rw [add_block]; exact hn150_0) | (show (Addr.add _ _).block ≠ _; rw [add_block]; exact hn150_0) | exact hn150_0) (.int .i64 (13 : Int))).trans hx150_1; replace hx150_2 := (cell_far (p := ⟨gb147, 0, none⟩) (by first | (rw [add_block]; exact hn150_0) | (show (Addr.add _ _).block ≠ _; rw [add_block]; exact hn150_0) | exact hn150_0) (.int .i64 (13 : Int))).trans hx150_2; replace hx150_0 := (cell_far (p := ⟨gb147, 1, none⟩) (by first | (rw [add_block]; exact hn150_1) | (show (Addr.add _ _).block ≠ _; rw [add_block]; exact hn150_1) | exact hn150_1) (.int .i64 (0 : Int))).trans hx150_0; replace hx150_1 := (cell_far (p := ⟨gb147, 1, none⟩) (by first | (rw [add_block]; exact hn150_1) | (show (Addr.add _ _).block ≠ _; rw [add_block]; exact hn150_1) | exact hn150_1) (.int .i64 (0 : Int))).trans hx150_1; replace hx150_2 := (cell_far (p := ⟨gb147, 1, none⟩) (by first | (rw [add_block]; exact hn150_1) | (show (Addr.add _ _).block ≠ _; rw [add_block]; exact hn150_1) | exact hn150_1) (.int .i64 (0 : Int))).trans hx150_2; replace hx150_0 := (cell_far (p := ⟨gb147, 2, none⟩) (by first | (rw [add_block]; exact hn150_2) | (show (Addr.add _ _).block ≠ _; rw [add_block]; exact hn150_2) | exact hn150_2) (.string (⟨#[]⟩ : ByteArray))).trans hx150_0; replace hx150_1 := (cell_far (p := ⟨gb147, 2, none⟩) (by first | (rw [add_block]; exact hn150_2) | (show (Addr.add _ _).block ≠ _; rw [add_block]; exact hn150_2) | exact hn150_2) (.string (⟨#[]⟩ : ByteArray))).trans hx150_1; replace hx150_2 := (cell_far (p := ⟨gb147, 2, none⟩) (by first | (rw [add_block]; exact hn150_2) | (show (Addr.add _ _).block ≠ _; rw [add_block]; exact hn150_2) | exact hn150_2) (.string (⟨#[]⟩ : ByteArray))).trans hx150_2; clear hn150_0; clear hn150_1; clear hn150_2; replace p150 := eq_true p150; replace q150 := eq_true q150) | (go_at_call 12; (with_reducible refine (speclex_Show.calls _ _ t127 t151 _ ?side3 ?side1 ?side2 A17.out).mono ?_); (case side1 => refine (Kd.R_reads' (e := 32) (base := w.heap.size) (ok := fun k_ => (((True ∧ some k_ ≠ (.slice (some ad148) t120.length co39 : Value).ownBlock) ∧ some k_ ≠ (v135 : Value).ownBlock) ∧ some k_ ≠ (v142 : Value).ownBlock)) (n := t127.length) (c := co40) ?_).2.2; exact (by (with_reducible repeat (first | apply Kd.R_alloc | apply Kd.R_drewN | apply Kd.R_drew)); exact (Kd.R_mono (Kd.R_far (p := ⟨gb147, 2, none⟩) (Kd.R_far (p := ⟨gb147, 1, none⟩) (Kd.R_far (p := ⟨gb147, 0, none⟩) (Kd.R_types HO129.out BK147.out (by decide)) (fun _ hk => hk.2) (.int .i64 (13 : Int))) (fun _ hk => hk.2) (.int .i64 (0 : Int))) (fun _ hk => hk.2) (.string (⟨#[]⟩ : ByteArray))) (fun _ h_ => h_.1)))); (case side2 => exact (Kd.R_reads' HO129.out).2.1); (case side3 => exact GW.below HGW.out (by repeat (first | (with_reducible first | exact HB.out | apply below_alloc | apply pw_below_drewN | apply below_drew1 | refine below_set ?_ GE126.out | refine below_set ?_ GE133.out | refine below_set ?_ GE140.out | refine below_set ?_ GE147.out) | exact HB.out))); rintro e w41 ⟨rfl, hb⟩; have n0_ := Aside0.mk (Kd.R_below (by (with_reducible repeat (first | apply Kd.R_alloc | apply Kd.R_drewN | apply Kd.R_drew)); exact (Kd.R_mono (Kd.R_far (p := ⟨gb147, 2, none⟩) (Kd.R_far (p := ⟨gb147, 1, none⟩) (Kd.R_far (p := ⟨gb147, 0, none⟩) (Kd.R_types HO122.out BK147.out (by decide)) (fun _ hk => hk.2) (.int .i64 (13 : Int))) (fun _ hk => hk.2) (.int .i64 (0 : Int))) (fun _ hk => hk.2) (.string (⟨#[]⟩ : ByteArray))) (fun _ h_ => h_.1))) hb); have n1_ := Aside0.mk (Kd.R_below (by (with_reducible repeat (first | apply Kd.R_alloc | apply Kd.R_drewN | apply Kd.R_drew)); exact (Kd.R_mono (Kd.R_far (p := ⟨gb147, 2, none⟩) (Kd.R_far (p := ⟨gb147, 1, none⟩) (Kd.R_far (p := ⟨gb147, 0, none⟩) (Kd.R_types HO129.out BK147.out (by decide)) (fun _ hk => hk.2) (.int .i64 (13 : Int))) (fun _ hk => hk.2) (.int .i64 (0 : Int))) (fun _ hk => hk.2) (.string (⟨#[]⟩ : ByteArray))) (fun _ h_ => h_.1))) hb); have n2_ := Aside0.mk (Kd.R_below (by (with_reducible repeat (first | apply Kd.R_alloc | apply Kd.R_drewN | apply Kd.R_drew)); exact (Kd.R_mono (Kd.R_far (p := ⟨gb147, 2, none⟩) (Kd.R_far (p := ⟨gb147, 1, none⟩) (Kd.R_far (p := ⟨gb147, 0, none⟩) (Kd.R_types HO136.out BK147.out (by decide)) (fun _ hk => hk.2) (.int .i64 (13 : Int))) (fun _ hk => hk.2) (.int .i64 (0 : Int))) (fun _ hk => hk.2) (.string (⟨#[]⟩ : ByteArray))) (fun _ h_ => h_.1))) hb); have n3_ := Aside0.mk (Kd.R_below (by (with_reducible repeat (first | apply Kd.R_alloc | apply Kd.R_drewN | apply Kd.R_drew)); exact (Kd.R_mono (Kd.R_far (p := ⟨gb147, 2, none⟩) (Kd.R_far (p := ⟨gb147, 1, none⟩) (Kd.R_far (p := ⟨gb147, 0, none⟩) (Kd.R_types HO143.out BK147.out (by decide)) (fun _ hk => hk.2) (.int .i64 (13 : Int))) (fun _ hk => hk.2) (.int .i64 (0 : Int))) (fun _ hk => hk.2) (.string (⟨#[]⟩ : ByteArray))) (fun _ h_ => h_.1))) hb); have n4_ := Aside0.mk (blk_below (g := gb126) (o := .cells #[.int .i64 (0 : Int), .int .i64 (0 : Int), .string (⟨#[]⟩ : ByteArray)] 26 (0, 0)) (by (with_reducible repeat (first | refine blk_drewN ?_ _ | refine blk_drew ?_ | refine blk_alloc ?_ _)); refine blk_far ?_ NB126_147.out _; (with_reducible repeat (first | refine blk_drewN ?_ _ | refine blk_drew ?_ | refine blk_alloc ?_ _)); refine blk_far ?_ NB126_147.out _; (with_reducible repeat (first | refine blk_drewN ?_ _ | refine blk_drew ?_ | refine blk_alloc ?_ _)); refine blk_far ?_ NB126_147.out _; (with_reducible repeat (first | refine blk_drewN ?_ _ | refine blk_drew ?_ | refine blk_alloc ?_ _)); exact BK126.out) hb); have n5_ := Aside0.mk (blk_below (g := gb133) (o := .cells #[.int .i64 (0 : Int), .int .i64 (0 : Int), .string (⟨#[]⟩ : ByteArray)] 26 (0, 0)) (by (with_reducible repeat (first | refine blk_drewN ?_ _ | refine blk_drew ?_ | refine blk_alloc ?_ _)); refine blk_far ?_ NB133_147.out _; (with_reducible repeat (first | refine blk_drewN ?_ _ | refine blk_drew ?_ | refine blk_alloc ?_ _)); refine blk_far ?_ NB133_147.out _; (with_reducible repeat (first | refine blk_drewN ?_ _ | refine blk_drew ?_ | refine blk_alloc ?_ _)); refine blk_far ?_ NB133_147.out _; (with_reducible repeat (first | refine blk_drewN ?_ _ | refine blk_drew ?_ | refine blk_alloc ?_ _)); exact BK133.out) hb); have n6_ := Aside0.mk (blk_below (g := gb140) (o := .cells #[.int .i64 (14 : Int), .int .i64 (0 : Int), .string (⟨#[]⟩ : ByteArray)] 26 (0, 0)) (by (with_reducible repeat (first | refine blk_drewN ?_ _ | refine blk_drew ?_ | refine blk_alloc ?_ _)); refine blk_far ?_ NB140_147.out _; (with_reducible repeat (first | refine blk_drewN ?_ _ | refine blk_drew ?_ | refine blk_alloc ?_ _)); refine blk_far ?_ NB140_147.out _; (with_reducible repeat (first | refine blk_drewN ?_ _ | refine blk_drew ?_ | refine blk_alloc ?_ _)); refine blk_far ?_ NB140_147.out _; (with_reducible repeat (first | refine blk_drewN ?_ _ | refine blk_drew ?_ | refine blk_alloc ?_ _)); exact BK140.out) hb); have n7_ := Aside0.mk (blk_below (g := gb147) (o := .cells #[.int .i64 (13 : Int), .int .i64 (0 : Int), .string (⟨#[]⟩ : ByteArray)] 26 (0, 0)) (by (with_reducible repeat (first | refine blk_drewN ?_ _ | refine blk_drew ?_ | refine blk_alloc ?_ _)); refine blk_put (cs := #[.int .i64 (13 : Int), .int .i64 (0 : Int), .string (⟨#[]⟩ : ByteArray)]) ?_ 2 _ rfl; (with_reducible repeat (first | refine blk_drewN ?_ _ | refine blk_drew ?_ | refine blk_alloc ?_ _)); refine blk_put (cs := #[.int .i64 (13 : Int), .int .i64 0, .string (⟨#[]⟩ : ByteArray)]) ?_ 1 _ rfl; (with_reducible repeat (first | refine blk_drewN ?_ _ | refine blk_drew ?_ | refine blk_alloc ?_ _)); refine blk_put (cs := #[.int .i64 0, .int .i64 0, .string (⟨#[]⟩ : ByteArray)]) ?_ 0 _ rfl; (with_reducible repeat (first | refine blk_drewN ?_ _ | refine blk_drew ?_ | refine blk_alloc ?_ _)); exact BK147.out) hb); have n8_ := Aside0.mk (below_step (by repeat (first | (with_reducible first | exact HB.out | apply below_alloc | apply pw_below_drewN | apply below_drew1 | refine below_set ?_ GE126.out | refine below_set ?_ GE133.out | refine below_set ?_ GE140.out | refine below_set ?_ GE147.out) | exact HB.out)) hb); clear HO122; clear HO129; clear HO136; clear HO143; clear BK126; clear BK133; clear BK140; clear BK147; clear HB; have HO122 := n0_; have HO129 := n1_; have HO136 := n2_; have HO143 := n3_; have BK126 := n4_; have BK133 := n5_; have BK140 := n6_; have BK147 := n7_; have HB := n8_; clear n0_ n1_ n2_ n3_ n4_ n5_ n6_ n7_ n8_; (try clear hb); (try clear hb2); (try clear hk); (try clear hi)))
                          go_ret
                          exact ⟨by first | rfl | (simp [errW_none, errW_some] <;> rfl) | (simp [*, errW_none, errW_some] <;> rfl), by repeat (first | (with_reducible first | exact HB.out | apply below_alloc | apply pw_below_drewN | apply below_drew1 | refine below_set ?_ GE126.out | refine below_set ?_ GE133.out | refine below_set ?_ GE140.out | refine below_set ?_ GE147.out) | exact HB.out)⟩
                        · rw [if_neg c16] at H
                          exact absurd H (by simp)
                      · rw [if_neg c15] at H
                        exact absurd H (by simp)
                    · rw [if_neg c14] at H
                      exact absurd H (by simp)
                  · rw [if_neg c13] at H
                    exact absurd H (by simp)
                · rw [if_neg c12] at H
                  exact absurd H (by simp)
              · rw [if_neg c11] at H
                exact absurd H (by simp)
            · rw [if_neg c10] at H
              exact absurd H (by simp)
          · rw [if_neg c9] at H
            exact absurd H (by simp)
        · rw [if_neg c8] at H
          exact absurd H (by simp)
      · rw [if_neg c7] at H
        exact absurd H (by simp)
    · rw [if_neg c6] at H
      exact absurd H (by simp)
  · rw [if_neg c5] at H
    exact absurd H (by simp)
end Go.Proofs.YthijdjpipjbkbaaDoor.H
end
section
namespace Go.Proofs.YthijdjpipjbkbaaDoor.H
open Go.RowKit Go.Proofs.YthijdjpipjbkbaaDoorW.PrintWords Go.Proofs.YthijdjpipjbkbaaDoorW.PrintLast Go.Proofs.YthijdjpipjbkbaaDoorW.PrintMore
set_option linter.unusedVariables false
set_option linter.unusedSimpArgs false
set_option maxRecDepth 100000 in
theorem knows_true : arboristlaw11_knows.f 60 = some true := by
  simp only [arboristlaw11_knows.f, ByteArray.toList_eq]
  kernel_rfl
theorem knows_ends : Ends (fun k => (arboristlaw11_knows.f k).bind fun t => some t) true := Ends.bind (g := fun _ t => some t) (Ends.of_mono (fun k => arboristlaw11_knows.mono k) ⟨60, knows_true⟩) (Ends.const _)
end Go.Proofs.YthijdjpipjbkbaaDoor.H
end
section
namespace Go.Proofs.YthijdjpipjbkbaaDoor.H
open Go.RowKit Go.Proofs.YthijdjpipjbkbaaDoorW.PrintWords Go.Proofs.YthijdjpipjbkbaaDoorW.PrintLast Go.Proofs.YthijdjpipjbkbaaDoorW.PrintMore
attribute [local go_sem] max2_int min2_int max_two min_two max_three min_three max_four min_four
set_option linter.unusedVariables false
set_option linter.unusedSimpArgs false
attribute [local go_sem high] eqA26
mutual
def arboristlaw11_SpeclexScans.j0 : Nat → ByteArray → Bool → Option (Bool)
 | 0, _, _ => none
 | k + 1, x0, x15 => if x15 = true then ((arboristlaw11_knows.f k).bind fun t181 => (some t181)) else ((speclex_Scan.f k x0).bind fun bt182 => ((arboristref11_Scan.f k x0).bind fun bt189 => (if (!(bt182.2.1 == bt189.2.1) || (!(bt182.2.2.1 == bt189.2.2.1) || (!(bt182.2.2.2.toList == bt189.2.2.2.toList)))) = true then (arboristlaw11_SpeclexScans.j1 k bt182.1 bt189.1 true) else ((arboristlaw11_same.f k bt182.1 bt189.1).bind fun t196 => (arboristlaw11_SpeclexScans.j1 k bt182.1 bt189.1 (!t196))))))
def arboristlaw11_SpeclexScans.j1 : Nat → List (S32) → List (S32) → Bool → Option (Bool)
 | 0, _, _, _ => none
 | k + 1, x3, x5, x35 => if x35 = true then (some false) else (arboristlaw11_SpeclexScans.l0 k x3 x5 0)
def arboristlaw11_SpeclexScans.l0 : Nat → List (S32) → List (S32) → Int → Option (Bool)
 | 0, _, _, _ => none
 | k + 1, x3, x5, x7 => if x7 < (x3.length : Int) then (if 0 ≤ x7 then (if x7 < (x5.length : Int) then (if ((rd_T32 x3 x7).f2) = ((rd_T32 x5 x7).f2) then (arboristlaw11_SpeclexScans.l0 k x3 x5 (wrap64 (x7 + 1))) else (some false)) else (none)) else (none)) else ((arboristlaw11_knows.f k).bind fun t199 => (some t199))
end
def arboristlaw11_SpeclexScans.f (k : Nat) (a0 : ByteArray) : Option (Bool) := if (a0.size : Int) > 400 then (arboristlaw11_SpeclexScans.j0 k a0 (decide ((a0.size : Int) ≤ 65536))) else (arboristlaw11_SpeclexScans.j0 k a0 false)
set_option maxHeartbeats 8000000 in
set_option maxRecDepth 100000 in
theorem arboristlaw11_SpeclexScans.calls (k : Nat) (a0 : ByteArray) (r : Bool) (w : World) (hgw : GW w) (h : arboristlaw11_SpeclexScans.f k a0 = some r) :
  Calls Tryd.prog 3 #[.string a0] w fun e w' => e = .returned (.bool r) ∧ Below w.heap.size w w' := by
 (have HGW := qM hgw); clear hgw; (have hu26 := Tryd.underlying26); (have HB := qM (Below.refl w.heap.size w)); (have H : (if (a0.size : Int) > 400 then (arboristlaw11_SpeclexScans.j0 k a0 (decide ((a0.size : Int) ≤ 65536))) else (arboristlaw11_SpeclexScans.j0 k a0 false)) = some r := h); clear h; (have HC2 := qM H); clear H; (go_enter Tryd.func3, Tryd.ntmps3); (go_upto_region 1 with (fail)); (repeat (go_quiet (fail); go_upto_region 1 with (fail))); (go_cut [15] (fun v15 wc => ∃ (kq : Nat) (x15_1 : Bool), v15 = .bool x15_1 ∧ Aside0 (arboristlaw11_SpeclexScans.j0 kq a0 x15_1 = some r) ∧ Aside0 (kq ≤ k) ∧ Aside0 (Below w.heap.size w wc)))
 case first =>
  (have H := HC2.out); clear HC2; (by_cases c3 : (a0.size : Int) > 400)
  ·rw [if_pos c3] at H
   (have c3b0 : decide (400 < (a0.size : Int)) = true := decide_eq_true c3); (have c3b1 : decide (400 < a0.size) = true := decide_eq_true (by omega)); clear c3; ((first | rw [c3b0] | (simp only [i64_w, i32_w]; rw [c3b0]) | skip)); (have H' := qM H); clear H; go_wp2; (repeat (go_quiet (fail); try go_wp2)); go_meet
   case rel => exact ⟨_, (decide ((a0.size : Int) ≤ 65536)), qV, H', ⟨by first | omega | exact Nat.le_refl _⟩, ⟨qF⟩⟩
  ·rw [if_neg c3] at H
   (have c3b0 : decide (400 < (a0.size : Int)) = false := decide_eq_false c3); (have c3b1 : decide (400 < a0.size) = false := decide_eq_false (by omega)); clear c3; ((first | rw [c3b0] | (simp only [i64_w, i32_w]; rw [c3b0]) | skip)); (have H' := qM H); clear H; go_wp2; (repeat (go_quiet (fail); try go_wp2)); go_meet
   case rel => exact ⟨_, (false), qV, H', ⟨by first | omega | exact Nat.le_refl _⟩, ⟨qF⟩⟩
 case rest =>
  clear HC2; (try clear p2); (try clear c3); (try clear c3b0); (try clear c3b1); (obtain ⟨kq, x15_1, rfl, HA, HJ1, HB⟩ := hcut)
  cases kq with
  | zero => exact absurd HA.out (by simp [arboristlaw11_SpeclexScans.j0])
  | succ kj1 =>
   (have H := HA.out); clear HA; (simp only [arboristlaw11_SpeclexScans.j0] at H); (by_cases c4 : x15_1 = true)
   ·subst c4
    (have H1 : ((arboristlaw11_knows.f kj1).bind fun t181 => (some t181)) = some r := by rw [if_pos rfl] at H; exact H); clear H; (have H := H1); clear H1; (replace H := Option.bind_eq_some_iff.mp H); (obtain ⟨t181, A50, H⟩ := H); (replace H : (some t181) = some r := H); (have A5 := qM A50); clear A50; (obtain rfl := Option.some.inj H); (go_wp2_with (first | (go_at_call 8; (with_reducible refine (arboristlaw11_knows.calls kj1  t181 _ ?side1 A5.out).mono ?_); (case side1 => exact GW.below HGW.out qF); rintro e w6 ⟨rfl, hb⟩; have n0_ := qM (qP qF hb); clear HB; have HB := n0_; clear n0_; (try clear hb); (try clear hb2); (try clear hk); (try clear hi))))
    repeat (go_quiet (first | (go_at_call 8; (with_reducible refine (arboristlaw11_knows.calls kj1  t181 _ ?side1 A5.out).mono ?_); (case side1 => exact GW.below HGW.out qF); rintro e w6 ⟨rfl, hb⟩; have n0_ := qM (qP qF hb); clear HB; have HB := n0_; clear n0_; (try clear hb); (try clear hb2); (try clear hk); (try clear hi))); try go_wp2_with (first | (go_at_call 8; (with_reducible refine (arboristlaw11_knows.calls kj1  t181 _ ?side1 A5.out).mono ?_); (case side1 => exact GW.below HGW.out qF); rintro e w6 ⟨rfl, hb⟩; have n0_ := qM (qP qF hb); clear HB; have HB := n0_; clear n0_; (try clear hb); (try clear hb2); (try clear hk); (try clear hi))))
    (go_ret); (exact ⟨qE, qF⟩)
   ·replace c4 := Bool.eq_false_iff.mpr c4
    subst c4; (have H1 : ((speclex_Scan.f kj1 a0).bind fun bt182 => ((arboristref11_Scan.f kj1 a0).bind fun bt189 => (if (!(bt182.2.1 == bt189.2.1) || (!(bt182.2.2.1 == bt189.2.2.1) || (!(bt182.2.2.2.toList == bt189.2.2.2.toList)))) = true then (arboristlaw11_SpeclexScans.j1 kj1 bt182.1 bt189.1 true) else ((arboristlaw11_same.f kj1 bt182.1 bt189.1).bind fun t196 => (arboristlaw11_SpeclexScans.j1 kj1 bt182.1 bt189.1 (!t196)))))) = some r := by rw [if_neg (show ¬ (false = true) by decide)] at H; exact H); clear H; (have H := H1); clear H1; (replace H := Option.bind_eq_some_iff.mp H); (obtain ⟨⟨t182, t185, t186, t187⟩, A70, H⟩ := H); (replace H : ((arboristref11_Scan.f kj1 a0).bind fun bt189 => (if (!(t185 == bt189.2.1) || (!(t186 == bt189.2.2.1) || (!(t187.toList == bt189.2.2.2.toList)))) = true then (arboristlaw11_SpeclexScans.j1 kj1 t182 bt189.1 true) else ((arboristlaw11_same.f kj1 t182 bt189.1).bind fun t196 => (arboristlaw11_SpeclexScans.j1 kj1 t182 bt189.1 (!t196))))) = some r := H); (have A7 := qM A70); clear A70; (replace H := Option.bind_eq_some_iff.mp H); (obtain ⟨⟨t189, t192, t193, t194⟩, A80, H⟩ := H); (replace H : (if (!(t185 == t192) || (!(t186 == t193) || (!(t187.toList == t194.toList)))) = true then (arboristlaw11_SpeclexScans.j1 kj1 t182 t189 true) else ((arboristlaw11_same.f kj1 t182 t189).bind fun t196 => (arboristlaw11_SpeclexScans.j1 kj1 t182 t189 (!t196)))) = some r := H); (have A8 := qM A80); clear A80; (have HC9 := qM H); clear H
    go_upto_region 5 with (first | (go_at_call 9; (with_reducible refine (speclex_Scan.calls kj1 a0 t182 t185 t186 t187 _ ?side1 A7.out).mono ?_); (case side1 => exact GW.below HGW.out qF); rintro e w10 ⟨v183, rfl, ho0, hb⟩; have n0_ := qM (Kd.R_lower ho0 (qZ qF)); have n1_ := qM (qP qF hb); clear HB; have HO184 := n0_; have HB := n1_; clear n0_ n1_; (try clear hb); (try clear hb2); (try clear hk); (try clear hi); (try clear ho0)) | ((with_reducible refine gate_dst (N := 4) rfl ?_); (try (refine gate_guard (by rfl) ?_; dsimp only)); refine box_event ?hg (N := 4) ?hd (cs := #[.int .i64 0, .int .i64 0, .string (⟨#[]⟩ : ByteArray)]) (t := 26) ?hr ?_; (case hd => rfl); (case hg => rfl); (case hr => first | (go_simp; done) | (go_simp; rfl)); intro gb188 hg w11 hbox hb; have n0_ := qM (Kd.R_below (by (with_reducible repeat (first | apply Kd.R_alloc | apply Kd.R_drewN | apply Kd.R_drew)); exact HO184.out) hb); have n1_ := qM (qP qF hb); have n2_ := qM (hbox); have n3_ := qM ((by rw [hg]; exact (qZ qF) : w.heap.size ≤ gb188)); have n4_ := qM ((by rw [hg]; exact (qZ qF) : w.heap.size ≤ gb188)); clear HO184; clear HB; have HO184 := n0_; have HB := n1_; have BK188 := n2_; have GW188 := n3_; have GE188 := n4_; clear n0_ n1_ n2_ n3_ n4_; clear hb hbox hg; obtain ⟨hcz12_0, hcz12_1, hcz12_2, hfz12_0, hfz12_1, hfz12_2⟩ := bx3 BK188.out) | (go_at_call 10; (with_reducible refine (arboristref11_Scan.calls kj1 a0 t189 t192 t193 t194 _ A8.out).mono ?_); rintro e w13 ⟨v190, rfl, ho0, hb⟩; have n0_ := qM (Kd.R_elder' (by (with_reducible repeat (first | apply Kd.R_alloc | apply Kd.R_drewN | apply Kd.R_drew)); exact (Kd.R_mono (Kd.R_far (p := ⟨gb188, 2, none⟩) (Kd.R_far (p := ⟨gb188, 1, none⟩) (Kd.R_far (p := ⟨gb188, 0, none⟩) (Kd.R_types HO184.out BK188.out (by decide)) (fun _ hk => hk.2) (.int .i64 t185)) (fun _ hk => hk.2) (.int .i64 t186)) (fun _ hk => hk.2) (.string t187)) (fun _ h_ => h_.1))) (Kd.R_base ho0) hb); have n1_ := qM (Kd.R_lower (Kd.R_new' ho0 (Kd.R_lt (by (with_reducible repeat (first | apply Kd.R_alloc | apply Kd.R_drewN | apply Kd.R_drew)); exact (Kd.R_mono (Kd.R_far (p := ⟨gb188, 2, none⟩) (Kd.R_far (p := ⟨gb188, 1, none⟩) (Kd.R_far (p := ⟨gb188, 0, none⟩) (Kd.R_types HO184.out BK188.out (by decide)) (fun _ hk => hk.2) (.int .i64 t185)) (fun _ hk => hk.2) (.int .i64 t186)) (fun _ hk => hk.2) (.string t187)) (fun _ h_ => h_.1))))) (qZ qF)); have n2_ := qM (qb (g := gb188) (o := .cells #[.int .i64 t185, .int .i64 t186, .string t187] 26 (0, 0)) (by (with_reducible repeat (first | refine qn ?_ _ | refine qd ?_ | refine qa ?_ _)); refine blk_put (cs := #[.int .i64 t185, .int .i64 t186, .string (⟨#[]⟩ : ByteArray)]) ?_ 2 _ rfl; (with_reducible repeat (first | refine qn ?_ _ | refine qd ?_ | refine qa ?_ _)); refine blk_put (cs := #[.int .i64 t185, .int .i64 0, .string (⟨#[]⟩ : ByteArray)]) ?_ 1 _ rfl; (with_reducible repeat (first | refine qn ?_ _ | refine qd ?_ | refine qa ?_ _)); refine blk_put (cs := #[.int .i64 0, .int .i64 0, .string (⟨#[]⟩ : ByteArray)]) ?_ 0 _ rfl; (with_reducible repeat (first | refine qn ?_ _ | refine qd ?_ | refine qa ?_ _)); exact BK188.out) hb); have n3_ := qM (qP qF hb); clear HO184; clear BK188; clear HB; have HO184 := n0_; have HO191 := n1_; have BK188 := n2_; have HB := n3_; clear n0_ n1_ n2_ n3_; (try clear hb); (try clear hb2); (try clear hk); (try clear hi); (try clear ho0)) | ((with_reducible refine gate_dst (N := 6) rfl ?_); (try (refine gate_guard (by rfl) ?_; dsimp only)); refine box_event ?hg (N := 6) ?hd (cs := #[.int .i64 0, .int .i64 0, .string (⟨#[]⟩ : ByteArray)]) (t := 26) ?hr ?_; (case hd => rfl); (case hg => rfl); (case hr => first | (go_simp; done) | (go_simp; rfl)); intro gb195 hg w14 hbox hb; have n0_ := qM (Kd.R_below (by (with_reducible repeat (first | apply Kd.R_alloc | apply Kd.R_drewN | apply Kd.R_drew)); exact HO184.out) hb); have n1_ := qM (Kd.R_below (by (with_reducible repeat (first | apply Kd.R_alloc | apply Kd.R_drewN | apply Kd.R_drew)); exact HO191.out) hb); have n2_ := qM (qb (g := gb188) qK hb); have n3_ := qM (qP qF hb); have n4_ := qM (hbox); have n5_ := qM ((by rw [hg]; exact (qZ qF) : w.heap.size ≤ gb195)); have n6_ := qM ((by rw [hg]; exact (qZ qF) : w.heap.size ≤ gb195)); have n7_ := qM ((by rw [hg]; exact Nat.ne_of_lt (ql (g := gb188) qK) : gb188 ≠ gb195)); have n8_ := qM ((by rw [hg]; exact Nat.ne_of_gt (ql (g := gb188) qK) : gb195 ≠ gb188)); clear HO184; clear HO191; clear BK188; clear HB; have HO184 := n0_; have HO191 := n1_; have BK188 := n2_; have HB := n3_; have BK195 := n4_; have GW195 := n5_; have GE195 := n6_; have NB188_195 := n7_; have NB195_188 := n8_; clear n0_ n1_ n2_ n3_ n4_ n5_ n6_ n7_ n8_; clear hb hbox hg; have hnb15 := NB195_188.out; have hnc15 := NB188_195.out; obtain ⟨hcz16_0, hcz16_1, hcz16_2, hfz16_0, hfz16_1, hfz16_2⟩ := bx3 BK195.out))
    repeat (go_quiet (first | (go_at_call 9; (with_reducible refine (speclex_Scan.calls kj1 a0 t182 t185 t186 t187 _ ?side1 A7.out).mono ?_); (case side1 => exact GW.below HGW.out qF); rintro e w10 ⟨v183, rfl, ho0, hb⟩; have n0_ := qM (Kd.R_lower ho0 (qZ qF)); have n1_ := qM (qP qF hb); clear HB; have HO184 := n0_; have HB := n1_; clear n0_ n1_; (try clear hb); (try clear hb2); (try clear hk); (try clear hi); (try clear ho0)) | ((with_reducible refine gate_dst (N := 4) rfl ?_); (try (refine gate_guard (by rfl) ?_; dsimp only)); refine box_event ?hg (N := 4) ?hd (cs := #[.int .i64 0, .int .i64 0, .string (⟨#[]⟩ : ByteArray)]) (t := 26) ?hr ?_; (case hd => rfl); (case hg => rfl); (case hr => first | (go_simp; done) | (go_simp; rfl)); intro gb188 hg w11 hbox hb; have n0_ := qM (Kd.R_below (by (with_reducible repeat (first | apply Kd.R_alloc | apply Kd.R_drewN | apply Kd.R_drew)); exact HO184.out) hb); have n1_ := qM (qP qF hb); have n2_ := qM (hbox); have n3_ := qM ((by rw [hg]; exact (qZ qF) : w.heap.size ≤ gb188)); have n4_ := qM ((by rw [hg]; exact (qZ qF) : w.heap.size ≤ gb188)); clear HO184; clear HB; have HO184 := n0_; have HB := n1_; have BK188 := n2_; have GW188 := n3_; have GE188 := n4_; clear n0_ n1_ n2_ n3_ n4_; clear hb hbox hg; obtain ⟨hcz12_0, hcz12_1, hcz12_2, hfz12_0, hfz12_1, hfz12_2⟩ := bx3 BK188.out) | (go_at_call 10; (with_reducible refine (arboristref11_Scan.calls kj1 a0 t189 t192 t193 t194 _ A8.out).mono ?_); rintro e w13 ⟨v190, rfl, ho0, hb⟩; have n0_ := qM (Kd.R_elder' (by (with_reducible repeat (first | apply Kd.R_alloc | apply Kd.R_drewN | apply Kd.R_drew)); exact (Kd.R_mono (Kd.R_far (p := ⟨gb188, 2, none⟩) (Kd.R_far (p := ⟨gb188, 1, none⟩) (Kd.R_far (p := ⟨gb188, 0, none⟩) (Kd.R_types HO184.out BK188.out (by decide)) (fun _ hk => hk.2) (.int .i64 t185)) (fun _ hk => hk.2) (.int .i64 t186)) (fun _ hk => hk.2) (.string t187)) (fun _ h_ => h_.1))) (Kd.R_base ho0) hb); have n1_ := qM (Kd.R_lower (Kd.R_new' ho0 (Kd.R_lt (by (with_reducible repeat (first | apply Kd.R_alloc | apply Kd.R_drewN | apply Kd.R_drew)); exact (Kd.R_mono (Kd.R_far (p := ⟨gb188, 2, none⟩) (Kd.R_far (p := ⟨gb188, 1, none⟩) (Kd.R_far (p := ⟨gb188, 0, none⟩) (Kd.R_types HO184.out BK188.out (by decide)) (fun _ hk => hk.2) (.int .i64 t185)) (fun _ hk => hk.2) (.int .i64 t186)) (fun _ hk => hk.2) (.string t187)) (fun _ h_ => h_.1))))) (qZ qF)); have n2_ := qM (qb (g := gb188) (o := .cells #[.int .i64 t185, .int .i64 t186, .string t187] 26 (0, 0)) (by (with_reducible repeat (first | refine qn ?_ _ | refine qd ?_ | refine qa ?_ _)); refine blk_put (cs := #[.int .i64 t185, .int .i64 t186, .string (⟨#[]⟩ : ByteArray)]) ?_ 2 _ rfl; (with_reducible repeat (first | refine qn ?_ _ | refine qd ?_ | refine qa ?_ _)); refine blk_put (cs := #[.int .i64 t185, .int .i64 0, .string (⟨#[]⟩ : ByteArray)]) ?_ 1 _ rfl; (with_reducible repeat (first | refine qn ?_ _ | refine qd ?_ | refine qa ?_ _)); refine blk_put (cs := #[.int .i64 0, .int .i64 0, .string (⟨#[]⟩ : ByteArray)]) ?_ 0 _ rfl; (with_reducible repeat (first | refine qn ?_ _ | refine qd ?_ | refine qa ?_ _)); exact BK188.out) hb); have n3_ := qM (qP qF hb); clear HO184; clear BK188; clear HB; have HO184 := n0_; have HO191 := n1_; have BK188 := n2_; have HB := n3_; clear n0_ n1_ n2_ n3_; (try clear hb); (try clear hb2); (try clear hk); (try clear hi); (try clear ho0)) | ((with_reducible refine gate_dst (N := 6) rfl ?_); (try (refine gate_guard (by rfl) ?_; dsimp only)); refine box_event ?hg (N := 6) ?hd (cs := #[.int .i64 0, .int .i64 0, .string (⟨#[]⟩ : ByteArray)]) (t := 26) ?hr ?_; (case hd => rfl); (case hg => rfl); (case hr => first | (go_simp; done) | (go_simp; rfl)); intro gb195 hg w14 hbox hb; have n0_ := qM (Kd.R_below (by (with_reducible repeat (first | apply Kd.R_alloc | apply Kd.R_drewN | apply Kd.R_drew)); exact HO184.out) hb); have n1_ := qM (Kd.R_below (by (with_reducible repeat (first | apply Kd.R_alloc | apply Kd.R_drewN | apply Kd.R_drew)); exact HO191.out) hb); have n2_ := qM (qb (g := gb188) qK hb); have n3_ := qM (qP qF hb); have n4_ := qM (hbox); have n5_ := qM ((by rw [hg]; exact (qZ qF) : w.heap.size ≤ gb195)); have n6_ := qM ((by rw [hg]; exact (qZ qF) : w.heap.size ≤ gb195)); have n7_ := qM ((by rw [hg]; exact Nat.ne_of_lt (ql (g := gb188) qK) : gb188 ≠ gb195)); have n8_ := qM ((by rw [hg]; exact Nat.ne_of_gt (ql (g := gb188) qK) : gb195 ≠ gb188)); clear HO184; clear HO191; clear BK188; clear HB; have HO184 := n0_; have HO191 := n1_; have BK188 := n2_; have HB := n3_; have BK195 := n4_; have GW195 := n5_; have GE195 := n6_; have NB188_195 := n7_; have NB195_188 := n8_; clear n0_ n1_ n2_ n3_ n4_ n5_ n6_ n7_ n8_; clear hb hbox hg; have hnb15 := NB195_188.out; have hnc15 := NB188_195.out; obtain ⟨hcz16_0, hcz16_1, hcz16_2, hfz16_0, hfz16_1, hfz16_2⟩ := bx3 BK195.out)); go_upto_region 5 with (first | (go_at_call 9; (with_reducible refine (speclex_Scan.calls kj1 a0 t182 t185 t186 t187 _ ?side1 A7.out).mono ?_); (case side1 => exact GW.below HGW.out qF); rintro e w10 ⟨v183, rfl, ho0, hb⟩; have n0_ := qM (Kd.R_lower ho0 (qZ qF)); have n1_ := qM (qP qF hb); clear HB; have HO184 := n0_; have HB := n1_; clear n0_ n1_; (try clear hb); (try clear hb2); (try clear hk); (try clear hi); (try clear ho0)) | ((with_reducible refine gate_dst (N := 4) rfl ?_); (try (refine gate_guard (by rfl) ?_; dsimp only)); refine box_event ?hg (N := 4) ?hd (cs := #[.int .i64 0, .int .i64 0, .string (⟨#[]⟩ : ByteArray)]) (t := 26) ?hr ?_; (case hd => rfl); (case hg => rfl); (case hr => first | (go_simp; done) | (go_simp; rfl)); intro gb188 hg w11 hbox hb; have n0_ := qM (Kd.R_below (by (with_reducible repeat (first | apply Kd.R_alloc | apply Kd.R_drewN | apply Kd.R_drew)); exact HO184.out) hb); have n1_ := qM (qP qF hb); have n2_ := qM (hbox); have n3_ := qM ((by rw [hg]; exact (qZ qF) : w.heap.size ≤ gb188)); have n4_ := qM ((by rw [hg]; exact (qZ qF) : w.heap.size ≤ gb188)); clear HO184; clear HB; have HO184 := n0_; have HB := n1_; have BK188 := n2_; have GW188 := n3_; have GE188 := n4_; clear n0_ n1_ n2_ n3_ n4_; clear hb hbox hg; obtain ⟨hcz12_0, hcz12_1, hcz12_2, hfz12_0, hfz12_1, hfz12_2⟩ := bx3 BK188.out) | (go_at_call 10; (with_reducible refine (arboristref11_Scan.calls kj1 a0 t189 t192 t193 t194 _ A8.out).mono ?_); rintro e w13 ⟨v190, rfl, ho0, hb⟩; have n0_ := qM (Kd.R_elder' (by (with_reducible repeat (first | apply Kd.R_alloc | apply Kd.R_drewN | apply Kd.R_drew)); exact (Kd.R_mono (Kd.R_far (p := ⟨gb188, 2, none⟩) (Kd.R_far (p := ⟨gb188, 1, none⟩) (Kd.R_far (p := ⟨gb188, 0, none⟩) (Kd.R_types HO184.out BK188.out (by decide)) (fun _ hk => hk.2) (.int .i64 t185)) (fun _ hk => hk.2) (.int .i64 t186)) (fun _ hk => hk.2) (.string t187)) (fun _ h_ => h_.1))) (Kd.R_base ho0) hb); have n1_ := qM (Kd.R_lower (Kd.R_new' ho0 (Kd.R_lt (by (with_reducible repeat (first | apply Kd.R_alloc | apply Kd.R_drewN | apply Kd.R_drew)); exact (Kd.R_mono (Kd.R_far (p := ⟨gb188, 2, none⟩) (Kd.R_far (p := ⟨gb188, 1, none⟩) (Kd.R_far (p := ⟨gb188, 0, none⟩) (Kd.R_types HO184.out BK188.out (by decide)) (fun _ hk => hk.2) (.int .i64 t185)) (fun _ hk => hk.2) (.int .i64 t186)) (fun _ hk => hk.2) (.string t187)) (fun _ h_ => h_.1))))) (qZ qF)); have n2_ := qM (qb (g := gb188) (o := .cells #[.int .i64 t185, .int .i64 t186, .string t187] 26 (0, 0)) (by (with_reducible repeat (first | refine qn ?_ _ | refine qd ?_ | refine qa ?_ _)); refine blk_put (cs := #[.int .i64 t185, .int .i64 t186, .string (⟨#[]⟩ : ByteArray)]) ?_ 2 _ rfl; (with_reducible repeat (first | refine qn ?_ _ | refine qd ?_ | refine qa ?_ _)); refine blk_put (cs := #[.int .i64 t185, .int .i64 0, .string (⟨#[]⟩ : ByteArray)]) ?_ 1 _ rfl; (with_reducible repeat (first | refine qn ?_ _ | refine qd ?_ | refine qa ?_ _)); refine blk_put (cs := #[.int .i64 0, .int .i64 0, .string (⟨#[]⟩ : ByteArray)]) ?_ 0 _ rfl; (with_reducible repeat (first | refine qn ?_ _ | refine qd ?_ | refine qa ?_ _)); exact BK188.out) hb); have n3_ := qM (qP qF hb); clear HO184; clear BK188; clear HB; have HO184 := n0_; have HO191 := n1_; have BK188 := n2_; have HB := n3_; clear n0_ n1_ n2_ n3_; (try clear hb); (try clear hb2); (try clear hk); (try clear hi); (try clear ho0)) | ((with_reducible refine gate_dst (N := 6) rfl ?_); (try (refine gate_guard (by rfl) ?_; dsimp only)); refine box_event ?hg (N := 6) ?hd (cs := #[.int .i64 0, .int .i64 0, .string (⟨#[]⟩ : ByteArray)]) (t := 26) ?hr ?_; (case hd => rfl); (case hg => rfl); (case hr => first | (go_simp; done) | (go_simp; rfl)); intro gb195 hg w14 hbox hb; have n0_ := qM (Kd.R_below (by (with_reducible repeat (first | apply Kd.R_alloc | apply Kd.R_drewN | apply Kd.R_drew)); exact HO184.out) hb); have n1_ := qM (Kd.R_below (by (with_reducible repeat (first | apply Kd.R_alloc | apply Kd.R_drewN | apply Kd.R_drew)); exact HO191.out) hb); have n2_ := qM (qb (g := gb188) qK hb); have n3_ := qM (qP qF hb); have n4_ := qM (hbox); have n5_ := qM ((by rw [hg]; exact (qZ qF) : w.heap.size ≤ gb195)); have n6_ := qM ((by rw [hg]; exact (qZ qF) : w.heap.size ≤ gb195)); have n7_ := qM ((by rw [hg]; exact Nat.ne_of_lt (ql (g := gb188) qK) : gb188 ≠ gb195)); have n8_ := qM ((by rw [hg]; exact Nat.ne_of_gt (ql (g := gb188) qK) : gb195 ≠ gb188)); clear HO184; clear HO191; clear BK188; clear HB; have HO184 := n0_; have HO191 := n1_; have BK188 := n2_; have HB := n3_; have BK195 := n4_; have GW195 := n5_; have GE195 := n6_; have NB188_195 := n7_; have NB195_188 := n8_; clear n0_ n1_ n2_ n3_ n4_ n5_ n6_ n7_ n8_; clear hb hbox hg; have hnb15 := NB195_188.out; have hnc15 := NB188_195.out; obtain ⟨hcz16_0, hcz16_1, hcz16_2, hfz16_0, hfz16_1, hfz16_2⟩ := bx3 BK195.out)))
    ((try simp only [Act.put, List.setIfInBounds_toArray, List.set_cons_zero, List.set_cons_succ])); (go_cut [35] (fun v35 wc => ∃ (kq : Nat) (x35_8 : Bool), v35 = .bool x35_8 ∧ Aside0 (arboristlaw11_SpeclexScans.j1 kq t182 t189 x35_8 = some r) ∧ Aside0 (kq ≤ kj1) ∧ Aside0 (Kd.R k32 32 wc w.heap.size (fun k_ => some k_ ≠ (v190 : Value).ownBlock) v183 t182) ∧ Aside0 (Kd.R k32 32 wc w.heap.size (fun k_ => some k_ ≠ (v183 : Value).ownBlock) v190 t189) ∧ Aside0 (wc.heap[gb188]? = some (.cells #[.int .i64 t185, .int .i64 t186, .string t187] 26 (0, 0))) ∧ Aside0 (wc.heap[gb195]? = some (.cells #[.int .i64 t192, .int .i64 t193, .string t194] 26 (0, 0))) ∧ Aside0 (Below w.heap.size w wc)))
    case first =>
     (have H := HC9.out); clear HC9; (by_cases c17 : (!(t185 == t192) || (!(t186 == t193) || (!(t187.toList == t194.toList)))) = true)
     ·rw [if_pos c17] at H
      (have c17b0 : (!(t185 == t192) || (!(t186 == t193) || (!(t187.toList == t194.toList)))) = true := c17); clear c17; ((first | rw [c17b0] | (simp only [i64_w, i32_w]; rw [c17b0]) | skip)); (have H' := qM H); clear H; (have hnb18 := NB188_195.out); (have hnc18 := NB195_188.out); (obtain ⟨hcz19_0, hcz19_1, hcz19_2, hfz19_0, hfz19_1, hfz19_2⟩ := bx3 BK188.out); (obtain ⟨hcz20_0, hcz20_1, hcz20_2, hfz20_0, hfz20_1, hfz20_2⟩ := bx3 BK195.out); go_wp2; (repeat (go_quiet (fail); try go_wp2)); go_meet
      case rel => exact ⟨_, (true), qV, H', ⟨by have := HJ1.out; first | omega | exact Nat.le_refl _⟩, ⟨by (with_reducible repeat (first | apply Kd.R_alloc | apply Kd.R_drewN | apply Kd.R_drew)); exact Kd.R_mono (Kd.R_far (p := ⟨gb195, 2, none⟩) (Kd.R_far (p := ⟨gb195, 1, none⟩) (Kd.R_far (p := ⟨gb195, 0, none⟩) (Kd.R_types HO184.out BK195.out (by decide)) (fun _ hk => hk.2) (.int .i64 t192)) (fun _ hk => hk.2) (.int .i64 t193)) (fun _ hk => hk.2) (.string t194)) (fun _ hk => hk.1.2)⟩, ⟨by (with_reducible repeat (first | apply Kd.R_alloc | apply Kd.R_drewN | apply Kd.R_drew)); exact Kd.R_mono (Kd.R_far (p := ⟨gb195, 2, none⟩) (Kd.R_far (p := ⟨gb195, 1, none⟩) (Kd.R_far (p := ⟨gb195, 0, none⟩) (Kd.R_types HO191.out BK195.out (by decide)) (fun _ hk => hk.2) (.int .i64 t192)) (fun _ hk => hk.2) (.int .i64 t193)) (fun _ hk => hk.2) (.string t194)) (fun _ hk => hk.1.2)⟩, ⟨by (with_reducible repeat (first | refine qn ?_ _ | refine qd ?_ | refine qa ?_ _)); refine qf ?_ NB188_195.out _; (with_reducible repeat (first | refine qn ?_ _ | refine qd ?_ | refine qa ?_ _)); refine qf ?_ NB188_195.out _; (with_reducible repeat (first | refine qn ?_ _ | refine qd ?_ | refine qa ?_ _)); refine qf ?_ NB188_195.out _; (with_reducible repeat (first | refine qn ?_ _ | refine qd ?_ | refine qa ?_ _)); exact BK188.out⟩, ⟨by (with_reducible repeat (first | refine qn ?_ _ | refine qd ?_ | refine qa ?_ _)); refine blk_put (cs := #[.int .i64 t192, .int .i64 t193, .string (⟨#[]⟩ : ByteArray)]) ?_ 2 _ rfl; (with_reducible repeat (first | refine qn ?_ _ | refine qd ?_ | refine qa ?_ _)); refine blk_put (cs := #[.int .i64 t192, .int .i64 0, .string (⟨#[]⟩ : ByteArray)]) ?_ 1 _ rfl; (with_reducible repeat (first | refine qn ?_ _ | refine qd ?_ | refine qa ?_ _)); refine blk_put (cs := #[.int .i64 0, .int .i64 0, .string (⟨#[]⟩ : ByteArray)]) ?_ 0 _ rfl; (with_reducible repeat (first | refine qn ?_ _ | refine qd ?_ | refine qa ?_ _)); exact BK195.out⟩, ⟨qF⟩⟩
     ·rw [if_neg c17] at H
      (have c17b0 : (!(t185 == t192) || (!(t186 == t193) || (!(t187.toList == t194.toList)))) = false := by simpa using c17); clear c17; ((first | rw [c17b0] | (simp only [i64_w, i32_w]; rw [c17b0]) | skip)); (replace H := Option.bind_eq_some_iff.mp H); (obtain ⟨t196, A210, H⟩ := H); (replace H : (arboristlaw11_SpeclexScans.j1 kj1 t182 t189 (!t196)) = some r := H); (have A21 := qM A210); clear A210; (have H' := qM H); clear H; (have hnb22 := NB188_195.out); (have hnc22 := NB195_188.out); (obtain ⟨hcz23_0, hcz23_1, hcz23_2, hfz23_0, hfz23_1, hfz23_2⟩ := bx3 BK188.out); (obtain ⟨hcz24_0, hcz24_1, hcz24_2, hfz24_0, hfz24_1, hfz24_2⟩ := bx3 BK195.out); (obtain ⟨Ao25, co25, eo25⟩ := Kd.R_slice HO184.out); subst eo25; (obtain ⟨Ao26, co26, eo26⟩ := Kd.R_slice HO191.out); subst eo26
      go_wp2_with (first | (go_at_call 11; (with_reducible refine (arboristlaw11_same.calls kj1 _ _ t182 _ _ t189 t196 _ ?side1 ?side2 ?side3 ?side4 A21.out).mono ?_); (case side1 => refine (Kd.R_reads' (e := 32) (base := w.heap.size) (ok := fun k_ => (True ∧ some k_ ≠ (.slice Ao26 t189.length co26 : Value).ownBlock)) (n := t182.length) (c := co25) ?_).2.2; exact (by (with_reducible repeat (first | apply Kd.R_alloc | apply Kd.R_drewN | apply Kd.R_drew)); exact (Kd.R_mono (Kd.R_far (p := ⟨gb195, 2, none⟩) (Kd.R_far (p := ⟨gb195, 1, none⟩) (Kd.R_far (p := ⟨gb195, 0, none⟩) (Kd.R_types HO184.out BK195.out (by decide)) (fun _ hk => hk.2) (.int .i64 t192)) (fun _ hk => hk.2) (.int .i64 t193)) (fun _ hk => hk.2) (.string t194)) (fun _ h_ => h_.1)))); (case side2 => exact (Kd.R_reads' HO184.out).2.1); (case side3 => refine (Kd.R_reads' (e := 32) (base := w.heap.size) (ok := fun k_ => (True ∧ some k_ ≠ (.slice Ao25 t182.length co25 : Value).ownBlock)) (n := t189.length) (c := co26) ?_).2.2; exact (by (with_reducible repeat (first | apply Kd.R_alloc | apply Kd.R_drewN | apply Kd.R_drew)); exact (Kd.R_mono (Kd.R_far (p := ⟨gb195, 2, none⟩) (Kd.R_far (p := ⟨gb195, 1, none⟩) (Kd.R_far (p := ⟨gb195, 0, none⟩) (Kd.R_types HO191.out BK195.out (by decide)) (fun _ hk => hk.2) (.int .i64 t192)) (fun _ hk => hk.2) (.int .i64 t193)) (fun _ hk => hk.2) (.string t194)) (fun _ h_ => h_.1)))); (case side4 => exact (Kd.R_reads' HO191.out).2.1); rintro e w' ⟨rfl, ⟨nd, rfl⟩⟩; (try first | exact ⟨rfl, _, World.drewN_drewN _ _ _⟩ | exact ⟨rfl, _, Eq.trans (World.drewN_drewN _ _ _) (congrArg (World.drewN _) (Nat.add_assoc _ _ _))⟩)))
      repeat (go_quiet (first | (go_at_call 11; (with_reducible refine (arboristlaw11_same.calls kj1 _ _ t182 _ _ t189 t196 _ ?side1 ?side2 ?side3 ?side4 A21.out).mono ?_); (case side1 => refine (Kd.R_reads' (e := 32) (base := w.heap.size) (ok := fun k_ => (True ∧ some k_ ≠ (.slice Ao26 t189.length co26 : Value).ownBlock)) (n := t182.length) (c := co25) ?_).2.2; exact (by (with_reducible repeat (first | apply Kd.R_alloc | apply Kd.R_drewN | apply Kd.R_drew)); exact (Kd.R_mono (Kd.R_far (p := ⟨gb195, 2, none⟩) (Kd.R_far (p := ⟨gb195, 1, none⟩) (Kd.R_far (p := ⟨gb195, 0, none⟩) (Kd.R_types HO184.out BK195.out (by decide)) (fun _ hk => hk.2) (.int .i64 t192)) (fun _ hk => hk.2) (.int .i64 t193)) (fun _ hk => hk.2) (.string t194)) (fun _ h_ => h_.1)))); (case side2 => exact (Kd.R_reads' HO184.out).2.1); (case side3 => refine (Kd.R_reads' (e := 32) (base := w.heap.size) (ok := fun k_ => (True ∧ some k_ ≠ (.slice Ao25 t182.length co25 : Value).ownBlock)) (n := t189.length) (c := co26) ?_).2.2; exact (by (with_reducible repeat (first | apply Kd.R_alloc | apply Kd.R_drewN | apply Kd.R_drew)); exact (Kd.R_mono (Kd.R_far (p := ⟨gb195, 2, none⟩) (Kd.R_far (p := ⟨gb195, 1, none⟩) (Kd.R_far (p := ⟨gb195, 0, none⟩) (Kd.R_types HO191.out BK195.out (by decide)) (fun _ hk => hk.2) (.int .i64 t192)) (fun _ hk => hk.2) (.int .i64 t193)) (fun _ hk => hk.2) (.string t194)) (fun _ h_ => h_.1)))); (case side4 => exact (Kd.R_reads' HO191.out).2.1); rintro e w' ⟨rfl, ⟨nd, rfl⟩⟩; (try first | exact ⟨rfl, _, World.drewN_drewN _ _ _⟩ | exact ⟨rfl, _, Eq.trans (World.drewN_drewN _ _ _) (congrArg (World.drewN _) (Nat.add_assoc _ _ _))⟩))); try go_wp2_with (first | (go_at_call 11; (with_reducible refine (arboristlaw11_same.calls kj1 _ _ t182 _ _ t189 t196 _ ?side1 ?side2 ?side3 ?side4 A21.out).mono ?_); (case side1 => refine (Kd.R_reads' (e := 32) (base := w.heap.size) (ok := fun k_ => (True ∧ some k_ ≠ (.slice Ao26 t189.length co26 : Value).ownBlock)) (n := t182.length) (c := co25) ?_).2.2; exact (by (with_reducible repeat (first | apply Kd.R_alloc | apply Kd.R_drewN | apply Kd.R_drew)); exact (Kd.R_mono (Kd.R_far (p := ⟨gb195, 2, none⟩) (Kd.R_far (p := ⟨gb195, 1, none⟩) (Kd.R_far (p := ⟨gb195, 0, none⟩) (Kd.R_types HO184.out BK195.out (by decide)) (fun _ hk => hk.2) (.int .i64 t192)) (fun _ hk => hk.2) (.int .i64 t193)) (fun _ hk => hk.2) (.string t194)) (fun _ h_ => h_.1)))); (case side2 => exact (Kd.R_reads' HO184.out).2.1); (case side3 => refine (Kd.R_reads' (e := 32) (base := w.heap.size) (ok := fun k_ => (True ∧ some k_ ≠ (.slice Ao25 t182.length co25 : Value).ownBlock)) (n := t189.length) (c := co26) ?_).2.2; exact (by (with_reducible repeat (first | apply Kd.R_alloc | apply Kd.R_drewN | apply Kd.R_drew)); exact (Kd.R_mono (Kd.R_far (p := ⟨gb195, 2, none⟩) (Kd.R_far (p := ⟨gb195, 1, none⟩) (Kd.R_far (p := ⟨gb195, 0, none⟩) (Kd.R_types HO191.out BK195.out (by decide)) (fun _ hk => hk.2) (.int .i64 t192)) (fun _ hk => hk.2) (.int .i64 t193)) (fun _ hk => hk.2) (.string t194)) (fun _ h_ => h_.1)))); (case side4 => exact (Kd.R_reads' HO191.out).2.1); rintro e w' ⟨rfl, ⟨nd, rfl⟩⟩; (try first | exact ⟨rfl, _, World.drewN_drewN _ _ _⟩ | exact ⟨rfl, _, Eq.trans (World.drewN_drewN _ _ _) (congrArg (World.drewN _) (Nat.add_assoc _ _ _))⟩))))
      go_meet
      case rel => exact ⟨_, (!t196), qV, H', ⟨by have := HJ1.out; first | omega | exact Nat.le_refl _⟩, ⟨by (with_reducible repeat (first | apply Kd.R_alloc | apply Kd.R_drewN | apply Kd.R_drew)); exact Kd.R_mono (Kd.R_far (p := ⟨gb195, 2, none⟩) (Kd.R_far (p := ⟨gb195, 1, none⟩) (Kd.R_far (p := ⟨gb195, 0, none⟩) (Kd.R_types HO184.out BK195.out (by decide)) (fun _ hk => hk.2) (.int .i64 t192)) (fun _ hk => hk.2) (.int .i64 t193)) (fun _ hk => hk.2) (.string t194)) (fun _ hk => hk.1.2)⟩, ⟨by (with_reducible repeat (first | apply Kd.R_alloc | apply Kd.R_drewN | apply Kd.R_drew)); exact Kd.R_mono (Kd.R_far (p := ⟨gb195, 2, none⟩) (Kd.R_far (p := ⟨gb195, 1, none⟩) (Kd.R_far (p := ⟨gb195, 0, none⟩) (Kd.R_types HO191.out BK195.out (by decide)) (fun _ hk => hk.2) (.int .i64 t192)) (fun _ hk => hk.2) (.int .i64 t193)) (fun _ hk => hk.2) (.string t194)) (fun _ hk => hk.1.2)⟩, ⟨by (with_reducible repeat (first | refine qn ?_ _ | refine qd ?_ | refine qa ?_ _)); refine qf ?_ NB188_195.out _; (with_reducible repeat (first | refine qn ?_ _ | refine qd ?_ | refine qa ?_ _)); refine qf ?_ NB188_195.out _; (with_reducible repeat (first | refine qn ?_ _ | refine qd ?_ | refine qa ?_ _)); refine qf ?_ NB188_195.out _; (with_reducible repeat (first | refine qn ?_ _ | refine qd ?_ | refine qa ?_ _)); exact BK188.out⟩, ⟨by (with_reducible repeat (first | refine qn ?_ _ | refine qd ?_ | refine qa ?_ _)); refine blk_put (cs := #[.int .i64 t192, .int .i64 t193, .string (⟨#[]⟩ : ByteArray)]) ?_ 2 _ rfl; (with_reducible repeat (first | refine qn ?_ _ | refine qd ?_ | refine qa ?_ _)); refine blk_put (cs := #[.int .i64 t192, .int .i64 0, .string (⟨#[]⟩ : ByteArray)]) ?_ 1 _ rfl; (with_reducible repeat (first | refine qn ?_ _ | refine qd ?_ | refine qa ?_ _)); refine blk_put (cs := #[.int .i64 0, .int .i64 0, .string (⟨#[]⟩ : ByteArray)]) ?_ 0 _ rfl; (with_reducible repeat (first | refine qn ?_ _ | refine qd ?_ | refine qa ?_ _)); exact BK195.out⟩, ⟨qF⟩⟩
    case rest =>
     clear HC9; (try clear c1); (try clear c2); (try clear p2); (try clear c3); (try clear c3b0); (try clear c3b1); (try clear c4); (try clear c15); (try clear c17); (try clear c17b0); (try clear c18); (try clear c22); (try clear hcz12_0 hcz12_1 hcz12_2); (try clear hcz16_0 hcz16_1 hcz16_2); (try clear hcz19_0 hcz19_1 hcz19_2); (try clear hcz20_0 hcz20_1 hcz20_2); (try clear hcz23_0 hcz23_1 hcz23_2); (try clear hcz24_0 hcz24_1 hcz24_2); (try clear hfz12_0 hfz12_1 hfz12_2); (try clear hfz16_0 hfz16_1 hfz16_2); (try clear hfz19_0 hfz19_1 hfz19_2); (try clear hfz20_0 hfz20_1 hfz20_2); (try clear hfz23_0 hfz23_1 hfz23_2); (try clear hfz24_0 hfz24_1 hfz24_2); (try clear p2); (obtain ⟨kq, x35_8, rfl, HA, HJ8, HO_3, HO_5, BK188, BK195, HB⟩ := hcut)
     cases kq with
     | zero => exact absurd HA.out (by simp [arboristlaw11_SpeclexScans.j1])
     | succ kj8 =>
      (have H := HA.out); clear HA; (simp only [arboristlaw11_SpeclexScans.j1] at H); (by_cases c27 : x35_8 = true)
      ·subst c27
       (have H1 : (some false) = some r := by rw [if_pos rfl] at H; exact H); clear H; (have H := H1); clear H1; (obtain rfl := Option.some.inj H); go_wp2; (repeat (go_quiet (fail); try go_wp2)); (go_ret); (exact ⟨qE, qF⟩)
      ·replace c27 := Bool.eq_false_iff.mpr c27
       subst c27; (have H1 : (arboristlaw11_SpeclexScans.l0 kj8 t182 t189 0) = some r := by rw [if_neg (show ¬ (false = true) by decide)] at H; exact H); clear H; (have H := H1); clear H1; (have H' := qM H); clear H; go_wp2; (repeat (go_quiet (fail); try go_wp2)); (go_loopg [7] kj8 (fun kq v7 w' => ∃ (x7_3 : Int), v7 = .int .i64 x7_3 ∧ Aside0 (arboristlaw11_SpeclexScans.l0 kq t182 t189 x7_3 = some r) ∧ Aside0 (kq ≤ kj8) ∧ Aside0 (Kd.R k32 32 w' w.heap.size (fun k_ => some k_ ≠ (v190 : Value).ownBlock) v183 t182) ∧ Aside0 (Kd.R k32 32 w' w.heap.size (fun k_ => some k_ ≠ (v183 : Value).ownBlock) v190 t189) ∧ Aside0 (w'.heap[gb188]? = some (.cells #[.int .i64 t185, .int .i64 t186, .string t187] 26 (0, 0))) ∧ Aside0 (w'.heap[gb195]? = some (.cells #[.int .i64 t192, .int .i64 t193, .string t194] 26 (0, 0))) ∧ Aside0 (Below w.heap.size w w')))
       case atStart => exact ⟨(0), qV, H', ⟨Nat.le_refl _⟩, ⟨by (with_reducible repeat (first | apply Kd.R_alloc | apply Kd.R_drewN | apply Kd.R_drew)); exact HO_3.out⟩, ⟨by (with_reducible repeat (first | apply Kd.R_alloc | apply Kd.R_drewN | apply Kd.R_drew)); exact HO_5.out⟩, ⟨qK⟩, ⟨qK⟩, ⟨qF⟩⟩
       case round =>
        (clear H'); (try clear c1); (try clear c2); (try clear p2); (try clear c3); (try clear c3b0); (try clear c3b1); (try clear c4); (try clear c15); (try clear c17); (try clear c17b0); (try clear c18); (try clear c22); (try clear c27); (try clear hcz12_0 hcz12_1 hcz12_2); (try clear hcz16_0 hcz16_1 hcz16_2); (try clear hcz19_0 hcz19_1 hcz19_2); (try clear hcz20_0 hcz20_1 hcz20_2); (try clear hcz23_0 hcz23_1 hcz23_2); (try clear hcz24_0 hcz24_1 hcz24_2); (try clear hfz12_0 hfz12_1 hfz12_2); (try clear hfz16_0 hfz16_1 hfz16_2); (try clear hfz19_0 hfz19_1 hfz19_2); (try clear hfz20_0 hfz20_1 hfz20_2); (try clear hfz23_0 hfz23_1 hfz23_2); (try clear hfz24_0 hfz24_1 hfz24_2); (try clear p2); (obtain ⟨x7_3, rfl, HA, HK3, HO_3, HO_5, BK188, BK195, HB⟩ := hrel)
        cases gk with
        | zero => exact absurd HA.out (by simp [arboristlaw11_SpeclexScans.l0])
        | succ k3 =>
         (have H := HA.out); clear HA; (simp only [arboristlaw11_SpeclexScans.l0] at H); (by_cases c28 : x7_3 < (t182.length : Int))
         ·rw [if_pos c28] at H
          (have c28b0 : decide (x7_3 < (t182.length : Int)) = true := decide_eq_true c28); clear c28; (by_cases c29 : 0 ≤ x7_3)
          ·rw [if_pos c29] at H
           (have c29b0 : decide (0 ≤ x7_3) = true := decide_eq_true c29); clear c29; (by_cases c30 : x7_3 < (t189.length : Int))
           ·rw [if_pos c30] at H
            (have c30b0 : decide (x7_3 < (t189.length : Int)) = true := decide_eq_true c30); clear c30; (by_cases c31 : ((rd_T32 t182 x7_3).f2) = ((rd_T32 t189 x7_3).f2))
            ·rw [if_pos c31] at H
             (have c31b0 : (((rd_T32 t182 x7_3).f2) == ((rd_T32 t189 x7_3).f2)) = true := beq_iff_eq.mpr c31); (have c31b1 : (((rd_T32 t182 x7_3).f2) != ((rd_T32 t189 x7_3).f2)) = false := bne_eq_false_iff_eq.mpr c31); clear c31; (have H' := qM H); clear H; (obtain ⟨Ao32, co32, eo32⟩ := Kd.R_slice HO_3.out); subst eo32; (have p197 : 0 ≤ (x7_3 : Int) := qo qX); (have q197 : x7_3 < (t182.length : Int) := qo qX); (obtain ⟨ad197, e197, hx197_0, hx197_1, hx197_2⟩ := at_T32 (Kd.R_reads' HO_3.out).2.2 x7_3 p197 q197)
             cases e197
             (replace p197 := eq_true p197); (replace q197 := eq_true q197); (obtain ⟨Ao33, co33, eo33⟩ := Kd.R_slice HO_5.out); subst eo33; (have p198 : 0 ≤ (x7_3 : Int) := qo qX); (have q198 : x7_3 < (t189.length : Int) := qo qX); (obtain ⟨ad198, e198, hx198_0, hx198_1, hx198_2⟩ := at_T32 (Kd.R_reads' HO_5.out).2.2 x7_3 p198 q198)
             cases e198
             (replace p198 := eq_true p198); (replace q198 := eq_true q198); go_wp2; (repeat (go_quiet (fail); try go_wp2)); (go_roundg k3)
             case measure => have := HJ1.out; have := HJ8.out; have := HK3.out; omega
             case rel => exact ⟨(wrap64 (x7_3 + 1)), qV, H', ⟨by have := HJ1.out; have := HJ8.out; have := HK3.out; omega⟩, ⟨by (with_reducible repeat (first | apply Kd.R_alloc | apply Kd.R_drewN | apply Kd.R_drew)); exact HO_3.out⟩, ⟨by (with_reducible repeat (first | apply Kd.R_alloc | apply Kd.R_drewN | apply Kd.R_drew)); exact HO_5.out⟩, ⟨qK⟩, ⟨qK⟩, ⟨qF⟩⟩
            ·rw [if_neg c31] at H
             (have c31b0 : (((rd_T32 t182 x7_3).f2) == ((rd_T32 t189 x7_3).f2)) = false := beq_eq_false_iff_ne.mpr c31); (have c31b1 : (((rd_T32 t182 x7_3).f2) != ((rd_T32 t189 x7_3).f2)) = true := bne_iff_ne.mpr c31); (obtain rfl := Option.some.inj H); (obtain ⟨Ao34, co34, eo34⟩ := Kd.R_slice HO_3.out); subst eo34; (have p197 : 0 ≤ (x7_3 : Int) := qo qX); (have q197 : x7_3 < (t182.length : Int) := qo qX); (obtain ⟨ad197, e197, hx197_0, hx197_1, hx197_2⟩ := at_T32 (Kd.R_reads' HO_3.out).2.2 x7_3 p197 q197)
             cases e197
             (replace p197 := eq_true p197); (replace q197 := eq_true q197); (obtain ⟨Ao35, co35, eo35⟩ := Kd.R_slice HO_5.out); subst eo35; (have p198 : 0 ≤ (x7_3 : Int) := qo qX); (have q198 : x7_3 < (t189.length : Int) := qo qX); (obtain ⟨ad198, e198, hx198_0, hx198_1, hx198_2⟩ := at_T32 (Kd.R_reads' HO_5.out).2.2 x7_3 p198 q198)
             cases e198
             (replace p198 := eq_true p198); (replace q198 := eq_true q198); go_wp2; (repeat (go_quiet (fail); try go_wp2)); (go_ret); (exact ⟨qE, qF⟩)
           ·rw [if_neg c30] at H
            exact absurd H (by simp)
          ·rw [if_neg c29] at H
           exact absurd H (by simp)
         ·rw [if_neg c28] at H
          (have c28b0 : decide (x7_3 < (t182.length : Int)) = false := decide_eq_false c28); clear c28; (replace H := Option.bind_eq_some_iff.mp H); (obtain ⟨t199, A360, H⟩ := H); (replace H : (some t199) = some r := H); (have A36 := qM A360); clear A360; (obtain rfl := Option.some.inj H); (obtain ⟨Ao37, co37, eo37⟩ := Kd.R_slice HO_3.out); subst eo37
          go_wp2_with (first | (go_at_call 8; (with_reducible refine (arboristlaw11_knows.calls k3  t199 _ ?side1 A36.out).mono ?_); (case side1 => exact GW.below HGW.out qF); rintro e w38 ⟨rfl, hb⟩; have n0_ := qM (Kd.R_below (by (with_reducible repeat (first | apply Kd.R_alloc | apply Kd.R_drewN | apply Kd.R_drew)); exact HO_3.out) hb); have n1_ := qM (Kd.R_below (by (with_reducible repeat (first | apply Kd.R_alloc | apply Kd.R_drewN | apply Kd.R_drew)); exact HO_5.out) hb); have n2_ := qM (qb (g := gb188) qK hb); have n3_ := qM (qb (g := gb195) qK hb); have n4_ := qM (qP qF hb); clear HO_3; clear HO_5; clear BK188; clear BK195; clear HB; have HO_3 := n0_; have HO_5 := n1_; have BK188 := n2_; have BK195 := n3_; have HB := n4_; clear n0_ n1_ n2_ n3_ n4_; (try clear hb); (try clear hb2); (try clear hk); (try clear hi)))
          repeat (go_quiet (first | (go_at_call 8; (with_reducible refine (arboristlaw11_knows.calls k3  t199 _ ?side1 A36.out).mono ?_); (case side1 => exact GW.below HGW.out qF); rintro e w38 ⟨rfl, hb⟩; have n0_ := qM (Kd.R_below (by (with_reducible repeat (first | apply Kd.R_alloc | apply Kd.R_drewN | apply Kd.R_drew)); exact HO_3.out) hb); have n1_ := qM (Kd.R_below (by (with_reducible repeat (first | apply Kd.R_alloc | apply Kd.R_drewN | apply Kd.R_drew)); exact HO_5.out) hb); have n2_ := qM (qb (g := gb188) qK hb); have n3_ := qM (qb (g := gb195) qK hb); have n4_ := qM (qP qF hb); clear HO_3; clear HO_5; clear BK188; clear BK195; clear HB; have HO_3 := n0_; have HO_5 := n1_; have BK188 := n2_; have BK195 := n3_; have HB := n4_; clear n0_ n1_ n2_ n3_ n4_; (try clear hb); (try clear hb2); (try clear hk); (try clear hi))); try go_wp2_with (first | (go_at_call 8; (with_reducible refine (arboristlaw11_knows.calls k3  t199 _ ?side1 A36.out).mono ?_); (case side1 => exact GW.below HGW.out qF); rintro e w38 ⟨rfl, hb⟩; have n0_ := qM (Kd.R_below (by (with_reducible repeat (first | apply Kd.R_alloc | apply Kd.R_drewN | apply Kd.R_drew)); exact HO_3.out) hb); have n1_ := qM (Kd.R_below (by (with_reducible repeat (first | apply Kd.R_alloc | apply Kd.R_drewN | apply Kd.R_drew)); exact HO_5.out) hb); have n2_ := qM (qb (g := gb188) qK hb); have n3_ := qM (qb (g := gb195) qK hb); have n4_ := qM (qP qF hb); clear HO_3; clear HO_5; clear BK188; clear BK195; clear HB; have HO_3 := n0_; have HO_5 := n1_; have BK188 := n2_; have BK195 := n3_; have HB := n4_; clear n0_ n1_ n2_ n3_ n4_; (try clear hb); (try clear hb2); (try clear hk); (try clear hi))))
          (go_ret); (exact ⟨qE, qF⟩)
end Go.Proofs.YthijdjpipjbkbaaDoor.H
end
section
namespace Go.Proofs.YthijdjpipjbkbaaDoor.H
open Go.RowKit Go.Proofs.YthijdjpipjbkbaaDoorW.PrintWords Go.Proofs.YthijdjpipjbkbaaDoorW.PrintLast Go.Proofs.YthijdjpipjbkbaaDoorW.PrintMore
set_option linter.unusedVariables false
set_option linter.unusedSimpArgs false
theorem same_l0 (l : List S32) (hl : l.length ≤ 100000) : ∀ (d i : Nat), l.length = i + d → Ends (fun k => arboristlaw11_same.l0 k l l (i : Int)) true := by
  intro d
  induction d with
  | zero => intro i h; exact Ends.step (fun k => arboristlaw11_same.l0.eq_2 ..) (Ends.neg (by omega) (Ends.const _))
  | succ d ih =>
    intro i h
    refine Ends.step (fun k => arboristlaw11_same.l0.eq_2 ..) (Ends.pos (by omega) (Ends.pos (by omega) (Ends.pos (by omega) (Ends.pos rfl (Ends.pos rfl ?_)))))
    rw [next_nat i (by omega)]
    exact ih (i + 1) (by omega)
theorem same_ends (l : List S32) (hl : l.length ≤ 100000) : Ends (fun k => arboristlaw11_same.f k l l) true := Ends.pos rfl (same_l0 l hl l.length 0 (by omega))
theorem scans_l0 (l : List S32) (hl : l.length ≤ 100000) : ∀ (d i : Nat), l.length = i + d → Ends (fun k => arboristlaw11_SpeclexScans.l0 k l l (i : Int)) true := by
  intro d
  induction d with
  | zero => intro i h; exact Ends.step (fun k => arboristlaw11_SpeclexScans.l0.eq_2 ..) (Ends.neg (by omega) knows_ends)
  | succ d ih =>
    intro i h
    refine Ends.step (fun k => arboristlaw11_SpeclexScans.l0.eq_2 ..) (Ends.pos (by omega) (Ends.pos (by omega) (Ends.pos (by omega) (Ends.pos rfl ?_))))
    rw [next_nat i (by omega)]
    exact ih (i + 1) (by omega)
theorem Pure.SpeclexScans (a0 : ByteArray) (w0 : a0.size ≤ reachBytes) : ∃ k, arboristlaw11_SpeclexScans.f k a0 = some true := by
  refine Ends.get (g := fun k => arboristlaw11_SpeclexScans.f k a0) ?_
  have go : ∀ v : List S32 × Int × Int × ByteArray, v.1.length ≤ 100000 → Ends (fun k => speclex_Scan.f k a0) v → Ends (fun k => arboristref11_Scan.f k a0) v → Ends (fun k => arboristlaw11_SpeclexScans.j0 k a0 false) true := fun v hl h1 h2 => by
    refine Ends.step (fun k => arboristlaw11_SpeclexScans.j0.eq_2 ..) (Ends.neg (by simp) (Ends.bind h1 (Ends.bind h2 (Ends.neg (by simp) (Ends.bind (same_ends v.1 hl) ?_)))))
    exact Ends.step (fun k => arboristlaw11_SpeclexScans.j1.eq_2 ..) (Ends.neg (by simp) (scans_l0 v.1 hl v.1.length 0 (by omega)))
  unfold arboristlaw11_SpeclexScans.f
  by_cases h4 : (a0.size : Int) > 400
  · refine Ends.pos h4 ?_
    by_cases h6 : (a0.size : Int) ≤ 65536
    · rw [decide_eq_true h6]
      exact Ends.step (fun k => arboristlaw11_SpeclexScans.j0.eq_2 ..) (Ends.pos rfl knows_ends)
    · rw [decide_eq_false h6]
      refine go ([], 4, 0, ⟨#[]⟩) (Nat.zero_le _) ?_ ?_
      · unfold speclex_Scan.f; exact Ends.neg (by omega) (Ends.const _)
      · unfold arboristref11_Scan.f; exact Ends.pos (by omega) (Ends.const _)
  · obtain ⟨v, h1, h2, h3⟩ := scan_ends a0 (by omega)
    exact Ends.neg h4 (go v (by omega) h1 h2)
end Go.Proofs.YthijdjpipjbkbaaDoor.H
end
section
namespace Go.Proofs.YthijdjpipjbkbaaDoor.H.speclexScans
open Go.ChangeShapes Go.WideShapes Go.ChangeAt Go.RowKit Go.Proofs.YthijdjpipjbkbaaDoorW.PrintWords Go.Proofs.YthijdjpipjbkbaaDoorW.PrintLast Go.Proofs.YthijdjpipjbkbaaDoorW.PrintMore
open Go.ChangeMaps (open_string shut_string)
set_option linter.unusedVariables false
set_option linter.unusedSimpArgs false
theorem own : ownKnob Tryd.prog.godebug = none := by kernel_rfl
theorem laidOut : laidOutB Tryd.prog = true := by kernel_rfl
noncomputable def laidWorld (os : Os) : World := { World.holding Tryd.prog os ⟨#[], #[], []⟩ with heap := (((((((World.holding Tryd.prog os ⟨#[], #[], []⟩).heap).modify 5 (fun | .cells _ t frozen => .cells (([0, 1, 28, 2, 29, 14, 24, 3, 30, 22, 20, 15, 25, 17, 4, 8, 31, 27, 13, 23, 21, 19, 16, 7, 26, 12, 18, 6, 11, 5, 10, 9] : List Int).map fun z => Value.int .u8 z).toArray t frozen | o => o)).modify 6 (fun | .cells _ t frozen => .cells (([0, 1, 56, 2, 57, 49, 28, 3, 61, 58, 42, 50, 38, 29, 17, 4, 62, 47, 59, 36, 45, 43, 51, 22, 53, 39, 33, 30, 24, 18, 12, 5, 63, 55, 48, 27, 60, 41, 37, 16, 46, 35, 44, 21, 52, 32, 23, 11, 54, 26, 40, 15, 34, 20, 31, 10, 25, 14, 19, 9, 13, 8, 7, 6] : List Int).map fun z => Value.int .u8 z).toArray t frozen | o => o)).modify 4 (fun | .cells _ t frozen => .cells (([1, 10, 100, 1000, 10000, 100000, 1000000, 10000000, 100000000, 1000000000, 10000000000, 100000000000, 1000000000000, 10000000000000, 100000000000000, 1000000000000000, 10000000000000000, 100000000000000000, 1000000000000000000, 10000000000000000000] : List Int).map fun z => Value.int .u64 z).toArray t frozen | o => o)).modify 3 (fun | .cells _ t frozen => .cells (([128, 191, 160, 191, 128, 159, 144, 191, 128, 143, 0, 0, 0, 0, 0, 0, 0, 0, 0, 0, 0, 0, 0, 0, 0, 0, 0, 0, 0, 0, 0, 0] : List Int).map fun z => Value.int .u8 z).toArray t frozen | o => o)).modify 0 (fun | .cells _ t frozen => .cells (([[37, 109, 111, 100, 101], [37, 116, 111, 107, 101, 110], [37, 115, 107, 105, 112], [37, 119, 111, 114, 100], [37, 108, 101, 102, 116], [37, 114, 105, 103, 104, 116], [37, 110, 111, 110], [37, 111, 110, 108, 121], [37, 115, 116, 97, 114, 116], [37, 112, 114, 101, 99]] : List (List UInt8)).map fun s => Value.string ⟨s.toArray⟩).toArray t frozen | o => o)).modify 2 (fun | .cells _ t frozen => .cells (([240, 240, 240, 240, 240, 240, 240, 240, 240, 240, 240, 240, 240, 240, 240, 240, 240, 240, 240, 240, 240, 240, 240, 240, 240, 240, 240, 240, 240, 240, 240, 240, 240, 240, 240, 240, 240, 240, 240, 240, 240, 240, 240, 240, 240, 240, 240, 240, 240, 240, 240, 240, 240, 240, 240, 240, 240, 240, 240, 240, 240, 240, 240, 240, 240, 240, 240, 240, 240, 240, 240, 240, 240, 240, 240, 240, 240, 240, 240, 240, 240, 240, 240, 240, 240, 240, 240, 240, 240, 240, 240, 240, 240, 240, 240, 240, 240, 240, 240, 240, 240, 240, 240, 240, 240, 240, 240, 240, 240, 240, 240, 240, 240, 240, 240, 240, 240, 240, 240, 240, 240, 240, 240, 240, 240, 240, 240, 240, 241, 241, 241, 241, 241, 241, 241, 241, 241, 241, 241, 241, 241, 241, 241, 241, 241, 241, 241, 241, 241, 241, 241, 241, 241, 241, 241, 241, 241, 241, 241, 241, 241, 241, 241, 241, 241, 241, 241, 241, 241, 241, 241, 241, 241, 241, 241, 241, 241, 241, 241, 241, 241, 241, 241, 241, 241, 241, 241, 241, 241, 241, 241, 241, 241, 241, 2, 2, 2, 2, 2, 2, 2, 2, 2, 2, 2, 2, 2, 2, 2, 2, 2, 2, 2, 2, 2, 2, 2, 2, 2, 2, 2, 2, 2, 2, 19, 3, 3, 3, 3, 3, 3, 3, 3, 3, 3, 3, 3, 35, 3, 3, 52, 4, 4, 4, 68, 241, 241, 241, 241, 241, 241, 241, 241, 241, 241, 241] : List Int).map fun z => Value.int .u8 z).toArray t frozen | o => o) }
set_option maxRecDepth 100000 in
theorem laid_met (os : Os) (args : Array Value) : laidMet Tryd.prog Rows.speclexScansRow.laid ((laidWorld os).forCall (fun _ _ => 0) ⟨#[], args, []⟩).memory := laidMet_of_run' 8 (by kernel_rfl) (by kernel_rfl)
set_option maxRecDepth 100000 in
theorem witness_row (os : Os) {H : Type} (enc : TypeId × Value → H) :
    (OpenSpec.ofChange Rows.speclexScansSpec).preRow enc Tryd.prog Tryd.f3 Rows.speclexScansRow.domain false Rows.speclexScansRow.laid ((laidWorld os).forCall (fun _ _ => 0) ⟨#[], #[.string ⟨#[]⟩], []⟩).memory #[.string ⟨#[]⟩] := by
  have hw : (DataW.whole enc Tryd.prog ((laidWorld os).forCall (fun _ _ => 0) ⟨#[], #[.string ⟨#[]⟩], []⟩).memory Tryd.f3.params.toList (OpenSpec.ofChange Rows.speclexScansSpec).vars false (#[.string ⟨#[]⟩] : Array Value).toList 8).map (fun x => (x.1, x.2.1)) =
      some ([.lit (.string [])], []) := by kernel_rfl
  obtain ⟨⟨x1, x2, x3⟩, hx, hx1⟩ := Option.map_eq_some_iff.1 hw
  simp only [Prod.mk.injEq] at hx1
  obtain ⟨rfl, rfl⟩ := hx1
  exact OpenSpec.preRow_of_cond 8 hx (by kernel_rfl) (fun k hk => by cases hk) (by kernel_rfl) (laid_met os _)
set_option maxRecDepth 100000 in
set_option maxHeartbeats 2000000 in
theorem lifted (os : Os) (started : os.Started) (H : Type) (enc : TypeId × Value → H) (F : Stop.Interp) :
    ReturnsInHanded {} Tryd.checked os 3 .any ((OpenSpec.ofChange Rows.speclexScansSpec).preRow enc Tryd.prog Tryd.f3 Rows.speclexScansRow.domain false Rows.speclexScansRow.laid) (((OpenSpec.ofChange Rows.speclexScansSpec).at F).post enc Tryd.prog Tryd.f3 false true false false) := by
  refine returnsInHanded_of_row (C := Tryd.checked) (s := (OpenSpec.ofChange Rows.speclexScansSpec)) own started (by kernel_rfl) Tryd.func3
    (witness_row_at (enc := enc) (C := Tryd.checked) false (laidWorld os) #[.string ⟨#[]⟩] rfl (by kernel_rfl) (by kernel_rfl) (by kernel_rfl) (witness_row os enc)) ?_
  intro W base args ds gs before hval0 hW _ hcond0 hsz0 hL hsh _
  have hsz : (DataW.weightsEach Tryd.prog (Tryd.f3.params.toList ++ (OpenSpec.ofChange Rows.speclexScansSpec).bare.plain.varTypes Tryd.prog) (ds ++ gs)).all (· ≤ reachBytes) = true := hsz0
  have hval : ∀ (j : Nat) t v, Tryd.f3.params[j]? = some t → args[j]? = some v → Value.okWide Tryd.prog W .any base t v := hval0
  have hW' := hW
  obtain ⟨p, q, hA0, hV0, rfl, _, _⟩ := hW
  have hA : DataW.TrodAll enc Tryd.prog W 0 (fun _ => true) true Tryd.f3.params.toList args.toList ds p := hA0
  rw [Tryd.params3] at hA hval hsz
  obtain ⟨v0, vs0, d0, ds0, p0, q0, hargs, rfl, rfl, h0, r0⟩ := trodAll_cons hA
  obtain ⟨rfl, rfl, rfl⟩ := trodAll_nil r0
  obtain rfl : args = #[v0] := by cases args; simp_all
  obtain ⟨rfl, rfl⟩ := trodVars_none hV0
  have hlt : ∀ x ∈ p0 ++ ([]), x.block < W.heap.size := fun x hx => by simpa using hW'.lt x (by simpa using hx)
  obtain ⟨a0, rfl, rfl, rfl, y0⟩ := open_string Tryd.underlying9 (hval 0 9 v0 rfl rfl) h0
  have w0 : a0.size ≤ reachBytes := by
    have z := sized_string hsz (j := 0) (t := 9) rfl rfl
    rw [Array.length_toList] at z
    exact z
  have hgw : GW W := gw_of hsh (Go.Lib.laidMet.reads hL (List.Mem.tail _ (List.Mem.tail _ (List.Mem.head _)))) (Go.Lib.laidMet.reads hL (List.Mem.tail _ (List.Mem.tail _ (List.Mem.tail _ (List.Mem.tail _ (List.Mem.tail _ (List.Mem.head _))))))) (Go.Lib.laidMet.reads hL (List.Mem.tail _ (List.Mem.tail _ (List.Mem.tail _ (List.Mem.head _))))) (Go.Lib.laidMet.reads hL (List.Mem.tail _ (List.Mem.head _))) (Go.Lib.laidMet.reads hL (List.Mem.tail _ (List.Mem.tail _ (List.Mem.tail _ (List.Mem.tail _ (List.Mem.head _))))))
  clear hcond0 hsz0 hA0 hV0 hval0
  obtain ⟨k, hf⟩ := Pure.SpeclexScans a0 w0
  refine (arboristlaw11_SpeclexScans.calls k a0 true W hgw  hf).mono fun e W' ⟨he, bel⟩ => ?_
  subst he
  exact ⟨_, rfl, _, _, _, [], _, [], hW', trodAll_mk1 (shut_bool Tryd.underlying4 _), (trodAll_cons_mk (shut_string Tryd.underlying9 y0) trodAll_mk0), rfl, bel.frame _, fun h => by cases h⟩
set_option maxRecDepth 100000 in
theorem holds : Rows.speclexScansRow.holds Tryd.pinned (OpenSpec.ofChange Rows.speclexScansSpec) :=
  OpenClaim.holds_of_cond 3 Tryd.f3 rfl rfl rfl rfl rfl rfl rfl ⟨rfl, rfl, rfl, rfl, rfl⟩ rfl rfl rfl rfl rfl (by kernel_rfl) Tryd.func3 (by kernel_rfl)
    (of_decide_eq_true (by kernel_rfl)) (by unfold Func.isWrapper; first | (rw [if_pos (by decide +kernel)]; kernel_rfl) | (rw [if_neg (by decide +kernel)]; exact ⟨rfl, rfl⟩))
    (fun os started H enc _ F0 => by rw [OpenClaim.pre_eq_preRow]; exact lifted os started H enc F0)
set_option maxRecDepth 100000 in
theorem card : Rows.SpeclexScansCardSaid :=
  Claim7.holds_tied_plain_at .later [] [.data, .data, .data, .data, .data, .pinned] true (true, "b9848e23086db2b19e13492054286a997c9905366071f1e75882b886d57ef9ba") false
    holds (fun _ h => by cases h) (by kernel_rfl) (fun _ h => by cases h) speclexScans_row_tie rfl ⟨rfl, rfl⟩ (by kernel_rfl) rfl
    (fun f fn hf hfn => by
      obtain rfl : f = 3 := Option.some.inj ((show Tryd.prog.funcNamed "arborist/arboristlaw11.SpeclexScans" = some 3 by kernel_rfl).symm.trans hf) |>.symm
      obtain rfl : fn = Tryd.f3 := (Option.some.inj (Tryd.func3.symm.trans hfn)).symm
      exact ⟨by kernel_rfl, fun j t ht => by
        rw [Tryd.params3] at ht
        rcases j with _ | j
        · obtain rfl : t = 9 := by simpa using ht.symm
          kernel_rfl
        · simp at ht⟩)
    (by kernel_rfl)
#print axioms card
end Go.Proofs.YthijdjpipjbkbaaDoor.H.speclexScans
namespace Go.Proofs.YthijdjpipjbkbaaDoor
theorem speclexScans_card : Rows.SpeclexScansCardSaid := H.speclexScans.card
#print axioms speclexScans_card
end Go.Proofs.YthijdjpipjbkbaaDoor
end
