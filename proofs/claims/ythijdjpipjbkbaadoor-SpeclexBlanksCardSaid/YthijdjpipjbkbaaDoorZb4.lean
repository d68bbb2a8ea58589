/- A part (4 of 5) of this proof: A space or a comment line that is inserted before a token which follows no # does not change the tokens that Scan returns, for every text, number and choice that the guards let in. -/
import Derived.Lib.IndexLaws
import Derived.WalkMore
import Derived.Deep.LoopGhost
import Derived.Test.YthijdjpipjbkbaaDoorZb3
section
namespace Go.Proofs.YthijdjpipjbkbaaDoor.H
open Go.RowKit Go.Proofs.YthijdjpipjbkbaaDoorW.PrintWords Go.Proofs.YthijdjpipjbkbaaDoorW.PrintLast Go.Proofs.YthijdjpipjbkbaaDoorW.PrintMore
set_option linter.unusedVariables false
set_option linter.unusedSimpArgs false
def Behind (R : List UInt8) : Prop := R = [] ∨ ∃ r, R = 10 :: r
theorem decodeN_line (n n' b0 b1 b2 b3 b1' b2' b3' : Nat) (h1 : (1 < n ∧ b1 / 64 = 2) ↔ (1 < n' ∧ b1' / 64 = 2)) (g1 : 1 < n → b1 = b1') (h2 : 1 < n → ((2 < n ∧ b2 / 64 = 2) ↔ (2 < n' ∧ b2' / 64 = 2))) (g2 : 2 < n → b2 = b2') (h3 : 2 < n → ((3 < n ∧ b3 / 64 = 2) ↔ (3 < n' ∧ b3' / 64 = 2))) (g3 : 3 < n → b3 = b3') :
    Lib.decodeN n b0 b1 b2 b3 = Lib.decodeN n' b0 b1' b2' b3' := by
  unfold Lib.decodeN
  by_cases c1 : 1 < n ∧ b1 / 64 = 2
  · obtain rfl := g1 c1.1
    have d1 := h1.1 c1
    by_cases c2 : 2 < n ∧ b2 / 64 = 2
    · obtain rfl := g2 c2.1
      have d2 := (h2 c1.1).1 c2
      by_cases c3 : 3 < n ∧ b3 / 64 = 2
      · obtain rfl := g3 c3.1
        have d3 := (h3 c2.1).1 c3
        simp only [c1, c2, c3, d1, d2, d3, and_true, true_and]
      · have d3 : ¬ (3 < n' ∧ b3' / 64 = 2) := fun q => c3 ((h3 c2.1).2 q)
        simp only [c1, c2, c3, d1, d2, d3, and_true, true_and, and_false, if_false]
    · have d2 : ¬ (2 < n' ∧ b2' / 64 = 2) := fun q => c2 ((h2 c1.1).2 q)
      simp only [c1, c2, d1, d2, and_true, true_and, and_false, false_and, if_false]
  · have d1 : ¬ (1 < n' ∧ b1' / 64 = 2) := fun q => c1 (h1.2 q)
    simp only [c1, d1, and_false, false_and, if_false]
theorem get_ba (l : List UInt8) (i : Nat) : (ba l).get! i = l.getD i 0 := by
  show l.toArray[i]! = _
  simp [List.getD_eq_getElem?_getD]
  rfl
theorem decode_line (T R : List UInt8) (hR : Behind R) (p : Nat) (hp : p < T.length) : Utf8.decode (ba (T ++ R)) p = Utf8.decode (ba T) p := by
  rw [Lib.decode_at, Lib.decode_at]
  simp only [get_ba, ba_size, List.length_append]
  have inn : ∀ i, i < T.length → (T ++ R).getD i 0 = T.getD i 0 := fun i hi => by
    simp [List.getD_eq_getElem?_getD, List.getElem?_append_left hi]
  have out : (T.length < (T ++ R).length → ((T ++ R).getD T.length 0).toNat / 64 ≠ 2) := fun h => by
    rcases hR with rfl | ⟨r, rfl⟩
    · simp at h
    · simp [List.getD_eq_getElem?_getD]
  have key : ∀ k, p + k ≤ T.length → ((k < T.length - p ∧ (T.getD (p + k) 0).toNat / 64 = 2) ↔ (k < T.length + R.length - p ∧ ((T ++ R).getD (p + k) 0).toNat / 64 = 2)) := fun k hk => by
    rcases Nat.lt_or_ge (p + k) T.length with q | q
    · rw [inn _ q]; exact ⟨fun h => ⟨by omega, h.2⟩, fun h => ⟨by omega, h.2⟩⟩
    · have e : p + k = T.length := by omega
      rw [e]
      exact ⟨fun h => by omega, fun h => absurd h.2 (out (by simp; omega))⟩
  have e0 := inn p hp
  rw [e0]
  symm
  refine decodeN_line _ _ _ _ _ _ _ _ _ (key 1 (by omega)) (fun h => by rw [inn _ (by omega)]) (fun h => key 2 (by omega)) (fun h => by rw [inn _ (by omega)]) (fun h => key 3 (by omega)) (fun h => by rw [inn _ (by omega)])
inductive BR where
  | un : BR
  | fo : BR
  | ok : Nat → Nat → BR
def BR.t : BR → Int × Int
  | .un => (0, -1)
  | .fo => (0, 0)
  | .ok n len => ((n : Int), (len : Int))
def BR.r : BR → Int × Int × Int
  | .un => (0, 0, 13)
  | .fo => (0, 0, 3)
  | .ok n len => ((n : Int), (len : Int), 0)
def BR.Fine (m : Nat) : BR → Prop
  | .ok n len => n < 16777216 ∧ 2 ≤ len ∧ len ≤ m ∧ len ≤ 8
  | _ => True
def digI (n : Nat) : Int := if 48 ≤ n ∧ n ≤ 57 then (n : Int) - 48 else if 97 ≤ n ∧ n ≤ 102 then (n : Int) - 87 else -1
theorem digI_lt (n : Nat) : -1 ≤ digI n ∧ digI n < 16 := by unfold digI; split; omega; split <;> omega
theorem ib_dig (c : UInt8) : strings_IndexByte.f (⟨#[48, 49, 50, 51, 52, 53, 54, 55, 56, 57, 97, 98, 99, 100, 101, 102]⟩ : ByteArray) (c.toNat : Int) = some (digI c.toNat) := by
  have H : ∀ n : Nat, n < 256 → Lib.indexByte [48, 49, 50, 51, 52, 53, 54, 55, 56, 57, 97, 98, 99, 100, 101, 102] ((n : Nat) : Int).toNat.toUInt8 = digI n := by decide +kernel
  unfold strings_IndexByte.f
  exact congrArg some (H c.toNat c.toNat_lt)
theorem digit_ends (n : Nat) (h : n < 256) : Ends (fun k => arboristref01_digit.f k (n : Int)) (digI n) := by
  unfold arboristref01_digit.f
  by_cases h1 : 48 ≤ n
  · refine Ends.pos (by omega) (Ends.step (fun k => arboristref01_digit.j0.eq_2 ..) ?_)
    by_cases h2 : n ≤ 57
    · refine Ends.pos (by simp; omega) ((Ends.const _).val ?_)
      unfold digI; rw [if_pos ⟨h1, h2⟩]; omega
    · refine Ends.neg (by simp; omega) ?_
      by_cases h3 : 97 ≤ n
      · refine Ends.pos (by omega) ?_
        by_cases h4 : n ≤ 102
        · refine Ends.pos (by omega) ((Ends.const _).val ?_)
          unfold digI; rw [if_neg (by omega), if_pos ⟨h3, h4⟩]; omega
        · refine Ends.neg (by omega) ((Ends.const _).val ?_)
          unfold digI; rw [if_neg (by omega), if_neg (by omega)]
      · refine Ends.neg (by omega) ((Ends.const _).val ?_)
        unfold digI; rw [if_neg (by omega), if_neg (by omega)]
  · refine Ends.neg (by omega) (Ends.step (fun k => arboristref01_digit.j0.eq_2 ..) (Ends.neg (by decide) (Ends.neg (by omega) ((Ends.const _).val ?_))))
    unfold digI; rw [if_neg (by omega), if_neg (by omega)]
theorem drop_app {T R : List UInt8} {i : Nat} {c : UInt8} {t : List UInt8} (h : T.drop i = c :: t) : (T ++ R).drop i = c :: (t ++ R) := by
  have hi := (drop_cons h).1
  rw [List.drop_append_of_le_length (by omega), h]
  rfl
theorem drop_end {T R : List UInt8} {i : Nat} (h : T.drop i = []) (hi : i ≤ T.length) : i = T.length ∧ (T ++ R).drop i = R := by
  have := drop_nil h
  have e : i = T.length := by omega
  subst e
  exact ⟨rfl, by simp⟩
theorem braced_fin (T R : List UInt8) (hT : ∀ c ∈ T, c ≠ 10) (hR : Behind R) (least : Nat) (hl : least ≤ 6) (n i : Nat) (hn : n < 16777216) (hi : i ≤ T.length) (h1 : 1 ≤ i) (h7 : i ≤ 7) :
    ∃ b : BR, b.Fine T.length ∧ Ends (fun k => text_braced.j2 k (ba T) (least : Int) (n : Int) (i : Int)) b.t ∧ Ends (fun k => arboristref01_braced.j1 k (ba (T ++ R)) (least : Int) (n : Int) (i : Int)) b.r := by
  have n1 : i + 1 ≤ 4294967296 := by omega
  have n2 : i - 1 ≤ 4294967296 := by omega
  have i0 : (0 : Int) ≤ (i : Int) := by omega
  rcases hd : T.drop i with _ | ⟨c, t⟩
  · obtain ⟨he, hd2⟩ := drop_end (R := R) hd hi
    refine ⟨.un, trivial, ?_, ?_⟩
    · refine Ends.step (fun k => text_braced.j2.eq_2 ..) (Ends.pos (by rw [ba_size, he]) (Ends.const _))
    · refine Ends.step (fun k => arboristref01_braced.j1.eq_2 ..) ?_
      rcases hR with rfl | ⟨r, rfl⟩
      · exact Ends.pos (by rw [ba_size, he]; simp) (Ends.const _)
      · obtain ⟨s1, s2⟩ := bt_ba hd2
        exact Ends.neg (by omega) (Ends.pos i0 (Ends.pos (by omega) (Ends.pos s2 (Ends.const _))))
  · obtain ⟨s1, s2⟩ := bt_ba hd
    obtain ⟨s3, s4⟩ := bt_ba (drop_app (R := R) hd)
    have hc : c ≠ 10 := hT c (by have : c ∈ T.drop i := by rw [hd]; exact List.mem_cons_self
                                 exact List.mem_of_mem_drop this)
    have hc' : ¬ (bt (ba (T ++ R)) (i : Int)) = 10 := by
      rw [s4]; intro q; apply hc; have : c.toNat = 10 := by omega
      exact UInt8.toNat_inj.1 this
    have a1 : ¬ (i : Int) = ((ba T).size : Int) := by omega
    have a2 : (i : Int) < ((ba T).size : Int) := by omega
    have a3 : ¬ (i : Int) = ((ba (T ++ R)).size : Int) := by omega
    have a4 : (i : Int) < ((ba (T ++ R)).size : Int) := by omega
    have a5 : i + 1 ≤ T.length := by rw [ba_size] at s1; omega
    by_cases h125 : c.toNat = 125
    · have b1 : bt (ba T) (i : Int) = 125 := by rw [s2]; omega
      have b2 : bt (ba (T ++ R)) (i : Int) = 125 := by rw [s4]; omega
      by_cases hle : i ≤ least
      · refine ⟨.fo, trivial, ?_, ?_⟩
        · exact Ends.step (fun k => text_braced.j2.eq_2 ..) (Ends.neg a1 (Ends.pos i0 (Ends.pos a2 (Ends.pos b1 (Ends.pos (by omega) (Ends.const _))))))
        · have hle2 : ((i - 1 : Nat) : Int) < (least : Int) := by omega
          have ew : wrap64 ((i : Int) - 1) = ((i - 1 : Nat) : Int) := (congrArg wrap64 (by omega)).trans (wrap_nat _ n2)
          exact Ends.step (fun k => arboristref01_braced.j1.eq_2 ..) (Ends.neg a3 (Ends.pos i0 (Ends.pos a4 (Ends.neg hc' (Ends.pos b2 (Ends.pos (by rw [ew]; exact hle2) (Ends.const _)))))))
      · refine ⟨.ok n (i + 1), ⟨hn, by omega, by omega, by omega⟩, ?_, ?_⟩
        · have hle1 : ¬ ((i : Int) ≤ (least : Int)) := by omega
          have ew : wrap64 ((i : Int) + 1) = ((i + 1 : Nat) : Int) := (congrArg wrap64 (by push_cast; rfl)).trans (wrap_nat _ n1)
          refine Ends.step (fun k => text_braced.j2.eq_2 ..) ?_
          rw [ew]
          exact Ends.neg a1 (Ends.pos i0 (Ends.pos a2 (Ends.pos b1 (Ends.neg hle1 (Ends.const _)))))
        · have hle2 : ¬ (((i - 1 : Nat) : Int) < (least : Int)) := by omega
          have ew : wrap64 ((i : Int) - 1) = ((i - 1 : Nat) : Int) := (congrArg wrap64 (by omega)).trans (wrap_nat _ n2)
          have ew2 : wrap64 ((i : Int) + 1) = ((i + 1 : Nat) : Int) := (congrArg wrap64 (by push_cast; rfl)).trans (wrap_nat _ n1)
          refine Ends.step (fun k => arboristref01_braced.j1.eq_2 ..) ?_
          rw [ew, ew2]
          exact Ends.neg a3 (Ends.pos i0 (Ends.pos a4 (Ends.neg hc' (Ends.pos b2 (Ends.neg hle2 (Ends.const _))))))
    · refine ⟨.fo, trivial, ?_, ?_⟩
      · exact Ends.step (fun k => text_braced.j2.eq_2 ..) (Ends.neg a1 (Ends.pos i0 (Ends.pos a2 (Ends.neg (by rw [s2]; omega) (Ends.const _)))))
      · exact Ends.step (fun k => arboristref01_braced.j1.eq_2 ..) (Ends.neg a3 (Ends.pos i0 (Ends.pos a4 (Ends.neg hc' (Ends.neg (by rw [s4]; omega) (Ends.const _))))))
theorem braced_go (T R : List UInt8) (hT : ∀ c ∈ T, c ≠ 10) (hR : Behind R) (least most : Nat) (hl : least ≤ 6) (hm : most ≤ 6) : ∀ (d n i : Nat), T.length ≤ i + d → i ≤ T.length → 1 ≤ i → i ≤ most + 1 → n < 16 ^ (i - 1) →
    ∃ b : BR, b.Fine T.length ∧ Ends (fun k => text_braced.l0 k (ba T) (least : Int) (most : Int) (n : Int) (i : Int)) b.t ∧ Ends (fun k => arboristref01_braced.l0 k (ba (T ++ R)) (least : Int) (most : Int) (n : Int) (i : Int)) b.r := by
  intro d
  induction d with
  | zero =>
    intro n i hd hi h1 h2 h3
    have hp6 : (16 : Nat) ^ (i - 1) ≤ 16 ^ 6 := Nat.pow_le_pow_right (by omega) (by omega)
    have h66 : (16 : Nat) ^ 6 = 16777216 := by decide
    have hn : n < 16777216 := by omega
    clear h3 hp6 h66
    obtain ⟨b, hf, ht, hr⟩ := braced_fin T R hT hR least hl n i hn hi h1 (by omega)
    refine ⟨b, hf, ?_, ?_⟩
    · exact Ends.step (fun k => text_braced.l0.eq_2 ..) (Ends.neg (by rw [ba_size]; omega) (Ends.step (fun k => text_braced.j1.eq_2 ..) (Ends.neg (by decide) ht)))
    · refine Ends.step (fun k => arboristref01_braced.l0.eq_2 ..) ?_
      obtain ⟨he, hd2⟩ := drop_end (R := R) (show T.drop i = [] from List.drop_of_length_le (by omega)) hi
      rcases hR with rfl | ⟨r, rfl⟩
      · exact Ends.neg (by rw [ba_size]; simp; omega) hr
      · obtain ⟨s1, s2⟩ := bt_ba hd2
        refine Ends.pos (by omega) ?_
        by_cases hle : i ≤ most
        · refine Ends.pos (by omega) (Ends.pos (by omega) ?_)
          rw [s2]
          exact Ends.bind (digit_ends 10 (by omega)) (Ends.neg (by decide) hr)
        · exact Ends.neg (by omega) hr
  | succ d ih =>
    intro n i hd hi h1 h2 h3
    have hp6 : (16 : Nat) ^ (i - 1) ≤ 16 ^ 6 := Nat.pow_le_pow_right (by omega) (by omega)
    have h66 : (16 : Nat) ^ 6 = 16777216 := by decide
    have hn : n < 16777216 := by omega
    have H3 := Aside0.mk h3
    clear h3 hp6 h66
    obtain ⟨b, hf, ht, hr⟩ := braced_fin T R hT hR least hl n i hn hi h1 (by omega)
    rcases hdr : T.drop i with _ | ⟨c, t⟩
    · obtain ⟨he, hd2⟩ := drop_end (R := R) hdr hi
      refine ⟨b, hf, ?_, ?_⟩
      · exact Ends.step (fun k => text_braced.l0.eq_2 ..) (Ends.neg (by rw [ba_size]; omega) (Ends.step (fun k => text_braced.j1.eq_2 ..) (Ends.neg (by decide) ht)))
      · refine Ends.step (fun k => arboristref01_braced.l0.eq_2 ..) ?_
        rcases hR with rfl | ⟨r, rfl⟩
        · exact Ends.neg (by rw [ba_size]; simp; omega) hr
        · obtain ⟨s1, s2⟩ := bt_ba hd2
          refine Ends.pos (by omega) ?_
          by_cases hle : i ≤ most
          · refine Ends.pos (by omega) (Ends.pos (by omega) ?_)
            rw [s2]
            exact Ends.bind (digit_ends 10 (by omega)) (Ends.neg (by decide) hr)
          · exact Ends.neg (by omega) hr
    · obtain ⟨s1, s2⟩ := bt_ba hdr
      obtain ⟨s3, s4⟩ := bt_ba (drop_app (R := R) hdr)
      have a2 : (i : Int) < ((ba T).size : Int) := by omega
      have a4 : (i : Int) < ((ba (T ++ R)).size : Int) := by omega
      have i0 : (0 : Int) ≤ (i : Int) := by omega
      have hiT : i + 1 ≤ T.length := by rw [ba_size] at s1; omega
      have hdI := digI_lt c.toNat
      by_cases hle : i ≤ most
      · have hle' : (i : Int) ≤ (most : Int) := by omega
        by_cases hdg : digI c.toNat < 0
        · refine ⟨b, hf, ?_, ?_⟩
          · refine Ends.step (fun k => text_braced.l0.eq_2 ..) (Ends.pos a2 (Ends.step (fun k => text_braced.j1.eq_2 ..) (Ends.pos (by simpa using hle') (Ends.pos i0 (Ends.pos a2 (Ends.bind0 (by rw [s2]; exact ib_dig c) (Ends.pos hdg ht)))))))
          · refine Ends.step (fun k => arboristref01_braced.l0.eq_2 ..) (Ends.pos a4 (Ends.pos hle' (Ends.pos i0 ?_)))
            rw [s4]
            exact Ends.bind (digit_ends c.toNat c.toNat_lt) (Ends.neg (by omega) hr)
        · obtain ⟨dv, hdv⟩ : ∃ dv : Nat, digI c.toNat = (dv : Int) := ⟨(digI c.toNat).toNat, by omega⟩
          have hdv16 : dv < 16 := by omega
          have n1 : 16 * n ≤ 4294967296 := by omega
          have n2 : 16 * n + dv ≤ 4294967296 := by omega
          have n3 : i + 1 ≤ 4294967296 := by omega
          have g0 : (dv : Int) ≥ 0 := by omega
          have g1 : ¬ ((dv : Int) < 0) := by omega
          obtain ⟨b', hf', ht', hr'⟩ := ih (16 * n + dv) (i + 1) (by omega) hiT (by omega) (by omega) (by
            have h4 := H3.out
            obtain ⟨j, rfl⟩ : ∃ j, i = j + 1 := ⟨i - 1, by omega⟩
            simp only [Nat.add_sub_cancel] at h4 ⊢
            rw [Nat.pow_succ]; omega)
          have DG := Aside0.mk hdv
          clear hdg hdI hdv
          have e1 : wrap64 (16 * (n : Int)) = ((16 * n : Nat) : Int) := (congrArg wrap64 (by push_cast; rfl)).trans (wrap_nat _ n1)
          have e2 : wrap64 (((16 * n : Nat) : Int) + (dv : Int)) = ((16 * n + dv : Nat) : Int) := (congrArg wrap64 (by push_cast; rfl)).trans (wrap_nat _ n2)
          have e3 : wrap64 ((i : Int) + 1) = ((i + 1 : Nat) : Int) := (congrArg wrap64 (by push_cast; rfl)).trans (wrap_nat _ n3)
          refine ⟨b', hf', ?_, ?_⟩
          · refine Ends.step (fun k => text_braced.l0.eq_2 ..) (Ends.pos a2 (Ends.step (fun k => text_braced.j1.eq_2 ..) (Ends.pos (by simpa using hle') (Ends.pos i0 (Ends.pos a2 (Ends.bind0 (a := (dv : Int)) (by rw [s2, ← DG.out]; exact ib_dig c) (Ends.neg g1 ?_)))))))
            rw [e1, e2, e3]
            exact ht'
          · refine Ends.step (fun k => arboristref01_braced.l0.eq_2 ..) (Ends.pos a4 (Ends.pos hle' (Ends.pos i0 ?_)))
            rw [s4]
            have hdE : Ends (fun k => arboristref01_digit.f k (c.toNat : Int)) (dv : Int) := (digit_ends c.toNat c.toNat_lt).val DG.out
            refine Ends.bind hdE (Ends.pos g0 (Ends.bind hdE ?_))
            rw [e1, e2, e3]
            exact hr'
      · refine ⟨b, hf, ?_, ?_⟩
        · exact Ends.step (fun k => text_braced.l0.eq_2 ..) (Ends.pos a2 (Ends.step (fun k => text_braced.j1.eq_2 ..) (Ends.neg (by simp; omega) ht)))
        · exact Ends.step (fun k => arboristref01_braced.l0.eq_2 ..) (Ends.pos a4 (Ends.neg (by omega) hr))
theorem braced_both (T R : List UInt8) (hT : ∀ c ∈ T, c ≠ 10) (hR : Behind R) (hTR : T ≠ [] ∨ R = []) (least most : Nat) (hl : least ≤ 6) (hm : most ≤ 6) :
    ∃ b : BR, b.Fine T.length ∧ Ends (fun k => text_braced.f k (ba T) (least : Int) (most : Int)) b.t ∧ Ends (fun k => arboristref01_braced.f k (ba (T ++ R)) (least : Int) (most : Int)) b.r := by
  unfold text_braced.f arboristref01_braced.f
  simp only [ByteArray.toList_eq, ba_list]
  rcases T with _ | ⟨c, t⟩
  · rcases hTR with h | rfl
    · exact absurd rfl h
    · exact ⟨.un, trivial, Ends.pos rfl (Ends.const _), Ends.pos rfl (Ends.const _)⟩
  · obtain ⟨s1, s2⟩ := bt_ba (l := c :: t) (i := 0) rfl
    obtain ⟨s3, s4⟩ := bt_ba (l := (c :: t) ++ R) (i := 0) rfl
    have t2 : bt (ba (c :: t)) 0 = (c.toNat : Int) := s2
    have t4 : bt (ba (c :: t ++ R)) 0 = (c.toNat : Int) := s4
    have a1 : 0 < ((ba (c :: t)).size : Int) := by omega
    have a2 : 0 < ((ba (c :: t ++ R)).size : Int) := by omega
    by_cases h : c.toNat = 123
    · obtain ⟨b, hf, ht, hr⟩ := braced_go (c :: t) R hT hR least most hl hm (c :: t).length 0 1 (by omega) (by simp) (by omega) (by omega) (by simp)
      exact ⟨b, hf, Ends.neg (by simp) (Ends.pos a1 (Ends.pos (by rw [t2]; omega) ht)), Ends.neg (by simp) (Ends.pos a2 (Ends.pos (by rw [t4]; omega) hr))⟩
    · exact ⟨.fo, trivial, Ends.neg (by simp) (Ends.pos a1 (Ends.neg (by rw [t2]; omega) (Ends.const _))), Ends.neg (by simp) (Ends.pos a2 (Ends.neg (by rw [t4]; omega) (Ends.const _)))⟩
end Go.Proofs.YthijdjpipjbkbaaDoor.H
end
section
namespace Go.Proofs.YthijdjpipjbkbaaDoor.H
open Go.RowKit Go.Proofs.YthijdjpipjbkbaaDoorW.PrintWords Go.Proofs.YthijdjpipjbkbaaDoorW.PrintLast Go.Proofs.YthijdjpipjbkbaaDoorW.PrintMore
set_option linter.unusedVariables false
set_option linter.unusedSimpArgs false
inductive ER where
  | un : ER
  | fo : ER
  | ok : List UInt8 → Nat → ER
def ER.t : ER → ByteArray × Int
  | .un => (⟨#[]⟩, -1)
  | .fo => (⟨#[]⟩, 0)
  | .ok d len => (ba d, (len : Int))
def ER.Is : ER → ByteArray × Int × Int → Prop
  | .un, v => v.2.2 = 13
  | .fo, v => v.2.2 = 3
  | .ok d len, v => v = (ba d, (len : Int), 0)
def ER.Fine (m : Nat) : ER → Prop
  | .ok d len => d.length ≤ 4 ∧ 1 ≤ len ∧ len ≤ m ∧ len ≤ 9
  | _ => True
theorem ib_none (c : UInt8) (h : c.toNat ≠ 34 ∧ c.toNat ≠ 92 ∧ c.toNat ≠ 110 ∧ c.toNat ≠ 114 ∧ c.toNat ≠ 116) : Lib.indexByte [34, 92, 110, 114, 116] c = -1 := by
  have H : ∀ n : Nat, n < 256 → (n ≠ 34 ∧ n ≠ 92 ∧ n ≠ 110 ∧ n ≠ 114 ∧ n ≠ 116) → Lib.indexByte [34, 92, 110, 114, 116] n.toUInt8 = -1 := by decide +kernel
  have e : c.toNat.toUInt8 = c := by simp [Nat.toUInt8]
  have := H c.toNat c.toNat_lt h
  rwa [e] at this
theorem valid_not (r : Nat) (h : ¬ (r < 55296 ∨ (57343 < r ∧ r ≤ 1114111))) : Ends (fun k => utf8_ValidRune.f k (r : Int)) false := by
  unfold utf8_ValidRune.f
  refine Ends.pos (by omega) (Ends.step (fun k => utf8_ValidRune.j0.eq_2 ..) ?_)
  refine Ends.neg (by simp; omega) ?_
  by_cases q : 57343 < (r : Int)
  · exact Ends.pos q (Ends.neg (by omega) (Ends.const _))
  · exact Ends.neg q (Ends.const _)
theorem byte_eq {c : UInt8} {n : Nat} (hn : n < 256) (h : c.toNat = n) : c = n.toUInt8 := by
  subst h; simp [Nat.toUInt8]
theorem esc_bx (t R : List UInt8) (hT : ∀ c ∈ t, c ≠ 10) (hR : Behind R) (hb : bt (ba (120 :: t)) 0 = 120) (hb' : bt (ba (120 :: t ++ R)) 0 = 120) :
    ∃ b : ER, b.Fine (t.length + 1) ∧ Ends (fun k => text_escape.f k (ba (120 :: t))) b.t ∧ ∃ v, b.Is v ∧ Ends (fun k => arboristref01_escape.f k (ba (120 :: t ++ R))) v := by
  have s0 : 0 < ((ba (120 :: t)).size : Int) := by rw [ba_size]; simp
  have s1 : 1 ≤ ((ba (120 :: t)).size : Int) := by omega
  have r0 : 0 < ((ba (120 :: t ++ R)).size : Int) := by rw [ba_size]; simp; omega
  have r1 : 1 ≤ ((ba (120 :: t ++ R)).size : Int) := by omega
  have txt : ∀ v, Ends (fun k => (text_braced.f k (ba t) 2 2).bind fun bt103 => (if bt103.2 < 1 then (some ((⟨#[]⟩ : ByteArray), bt103.2)) else (some (strOfNums (([(bt103.1) % 256] : List Int)), wrap64 (1 + bt103.2))))) v → Ends (fun k => text_escape.f k (ba (120 :: t))) v := by
    intro v hv
    unfold text_escape.f
    refine Ends.neg (by rw [ByteArray.toList_eq, ba_list]; simp) (Ends.pos s0 (Ends.bind0 (a := -1) (by rw [hb]; decide) (Ends.neg (by decide) (Ends.pos hb ?_))))
    refine Ends.step (fun k => text_escape.j0.eq_2 ..) (Ends.pos s1 ?_)
    rw [ba_drop]
    simpa using hv
  have head : ∀ v, Ends (fun k => if ((ba (120 :: t ++ R)).size : Int) > 1 then (if 1 < ((ba (120 :: t ++ R)).size : Int) then (if (bt (ba (120 :: t ++ R)) 1) = 10 then (some ((⟨#[]⟩ : ByteArray), 0, 13)) else (if 1 ≤ ((ba (120 :: t ++ R)).size : Int) then ((arboristref01_braced.f k ((ba (120 :: t ++ R)).extract 1 (ba (120 :: t ++ R)).size) 2 2).bind fun bt215 => (some (strOfNums (([(bt215.1) % 256] : List Int)), wrap64 (1 + bt215.2.1), bt215.2.2))) else (none))) else (none)) else (if 1 ≤ ((ba (120 :: t ++ R)).size : Int) then ((arboristref01_braced.f k ((ba (120 :: t ++ R)).extract 1 (ba (120 :: t ++ R)).size) 2 2).bind fun bt221 => (some (strOfNums (([(bt221.1) % 256] : List Int)), wrap64 (1 + bt221.2.1), bt221.2.2))) else (none))) v → Ends (fun k => arboristref01_escape.f k (ba (120 :: t ++ R))) v := by
    intro v hv
    unfold arboristref01_escape.f
    refine Ends.neg (by rw [ByteArray.toList_eq, ba_list]; simp) (Ends.pos r0 (Ends.step (fun k => arboristref01_escape.j0.eq_2 ..) (Ends.neg (by rw [hb']; decide) (Ends.pos r0 (Ends.neg (by rw [hb']; decide) (Ends.step (fun k => arboristref01_escape.j1.eq_2 ..) (Ends.neg (by rw [hb']; decide) ?_)))))))
    refine Ends.neg (by rw [hb']; decide) (Ends.neg (by rw [hb']; decide) (Ends.neg (by rw [hb']; decide) (Ends.pos hb' ?_)))
    exact hv
  have tail : (t ≠ [] ∨ R = []) → ∃ b : ER, b.Fine (t.length + 1) ∧ Ends (fun k => text_escape.f k (ba (120 :: t))) b.t ∧ ∃ v, b.Is v ∧ Ends (fun k => (arboristref01_braced.f k (ba (t ++ R)) 2 2).bind fun bt215 => (some (strOfNums (([(bt215.1) % 256] : List Int)), wrap64 (1 + bt215.2.1), bt215.2.2))) v := by
    intro hTR
    obtain ⟨b, hf, ht, hr⟩ := braced_both t R hT hR hTR 2 2 (by omega) (by omega)
    cases b with
    | un => exact ⟨.un, trivial, txt _ (Ends.bind ht (Ends.pos (by decide) (Ends.const _))), (_, _, 13), rfl, Ends.bind hr (Ends.const _)⟩
    | fo => exact ⟨.fo, trivial, txt _ (Ends.bind ht (Ends.pos (by decide) (Ends.const _))), (_, _, 3), rfl, Ends.bind hr (Ends.const _)⟩
    | ok n len =>
      obtain ⟨f1, f2, f3, f4⟩ := hf
      have n1 : len + 1 ≤ 4294967296 := by omega
      have ew : wrap64 (1 + (len : Int)) = ((len + 1 : Nat) : Int) := (congrArg wrap64 (by push_cast; omega)).trans (wrap_nat _ n1)
      have em : (n : Int) % 256 = ((n % 256 : Nat) : Int) := by omega
      have hge : ¬ ((len : Int) < 1) := by omega
      have EW := Aside0.mk ew
      clear ew
      refine ⟨.ok [(n % 256).toUInt8] (len + 1), ⟨by simp, by omega, by omega, by omega⟩, txt _ (Ends.bind ht (Ends.neg hge ?_)), _, rfl, Ends.bind hr ?_⟩
      · simp only [BR.t, em, EW.out]
        exact Ends.const _
      · simp only [BR.r, em, EW.out]
        exact Ends.const _
  rcases t with _ | ⟨c2, t2⟩
  · rcases hR with rfl | ⟨r, rfl⟩
    · obtain ⟨b, hf, ht, v, hv, hr⟩ := tail (.inr rfl)
      refine ⟨b, hf, ht, v, hv, head v (Ends.neg (by rw [ba_size]; simp) (Ends.pos r1 ?_))⟩
      rw [ba_drop]
      exact hr
    · obtain ⟨q1, q2⟩ := bt_ba (l := [120] ++ 10 :: r) (i := 1) rfl
      have q2' : bt (ba ([120] ++ 10 :: r)) 1 = 10 := q2
      have q3 : 1 < ((ba ([120] ++ 10 :: r)).size : Int) := by omega
      refine ⟨.un, trivial, txt _ ?_, (⟨#[]⟩, 0, 13), rfl, head (⟨#[]⟩, 0, 13) (Ends.pos q3 (Ends.pos q3 (Ends.pos q2' (Ends.const _))))⟩
      obtain ⟨b, hf, ht, hr⟩ := braced_both [] [] (by simp) (.inl rfl) (.inr rfl) 2 2 (by omega) (by omega)
      have hb2 : Ends (fun k => text_braced.f k (ba []) 2 2) (0, -1) := by
        unfold text_braced.f
        exact Ends.pos (by simp [ByteArray.toList_eq, ba]) (Ends.const _)
      exact Ends.bind hb2 (Ends.pos (by decide) (Ends.const _))
  · obtain ⟨q1, q2⟩ := bt_ba (l := 120 :: c2 :: t2 ++ R) (i := 1) rfl
    have q2' : bt (ba (120 :: c2 :: t2 ++ R)) 1 = (c2.toNat : Int) := q2
    have q3 : 1 < ((ba (120 :: c2 :: t2 ++ R)).size : Int) := by omega
    have hc2 : c2.toNat ≠ 10 := fun e => hT c2 List.mem_cons_self (byte_eq (n := 10) (by omega) e)
    obtain ⟨b, hf, ht, v, hv, hr⟩ := tail (.inl (by simp))
    refine ⟨b, hf, ht, v, hv, head v (Ends.pos q3 (Ends.pos q3 (Ends.neg (by rw [q2']; omega) (Ends.pos r1 ?_))))⟩
    rw [ba_drop]
    exact hr
theorem esc_bu (t R : List UInt8) (hT : ∀ c ∈ t, c ≠ 10) (hR : Behind R) (hb : bt (ba (117 :: t)) 0 = 117) (hb' : bt (ba (117 :: t ++ R)) 0 = 117) :
    ∃ b : ER, b.Fine (t.length + 1) ∧ Ends (fun k => text_escape.f k (ba (117 :: t))) b.t ∧ ∃ v, b.Is v ∧ Ends (fun k => arboristref01_escape.f k (ba (117 :: t ++ R))) v := by
  have s0 : 0 < ((ba (117 :: t)).size : Int) := by rw [ba_size]; simp
  have s1 : 1 ≤ ((ba (117 :: t)).size : Int) := by omega
  have r0 : 0 < ((ba (117 :: t ++ R)).size : Int) := by rw [ba_size]; simp; omega
  have r1 : 1 ≤ ((ba (117 :: t ++ R)).size : Int) := by omega
  have txt : ∀ v, Ends (fun k => (text_braced.f k (ba t) 1 6).bind fun bt103 => (if bt103.2 < 1 then (some ((⟨#[]⟩ : ByteArray), bt103.2)) else ((utf8_ValidRune.f k (wrap32 (bt103.1))).bind fun t108 => (if t108 = true then (some ((Utf8.encode (wrap32 (bt103.1))), wrap64 (1 + bt103.2))) else (some ((⟨#[]⟩ : ByteArray), 0)))))) v → Ends (fun k => text_escape.f k (ba (117 :: t))) v := by
    intro v hv
    unfold text_escape.f
    refine Ends.neg (by rw [ByteArray.toList_eq, ba_list]; simp) (Ends.pos s0 (Ends.bind0 (a := -1) (by rw [hb]; decide) (Ends.neg (by decide) (Ends.neg (by rw [hb]; decide) (Ends.pos hb ?_)))))
    refine Ends.step (fun k => text_escape.j0.eq_2 ..) (Ends.pos s1 ?_)
    rw [ba_drop]
    simpa using hv
  have head : ∀ v, Ends (fun k => if ((ba (117 :: t ++ R)).size : Int) > 1 then (if 1 < ((ba (117 :: t ++ R)).size : Int) then (arboristref01_escape.j2 k (ba (117 :: t ++ R)) ((bt (ba (117 :: t ++ R)) 1) == 10)) else (none)) else (arboristref01_escape.j2 k (ba (117 :: t ++ R)) false)) v → Ends (fun k => arboristref01_escape.f k (ba (117 :: t ++ R))) v := by
    intro v hv
    unfold arboristref01_escape.f
    refine Ends.neg (by rw [ByteArray.toList_eq, ba_list]; simp) (Ends.pos r0 (Ends.step (fun k => arboristref01_escape.j0.eq_2 ..) (Ends.neg (by rw [hb']; decide) (Ends.pos r0 (Ends.neg (by rw [hb']; decide) (Ends.step (fun k => arboristref01_escape.j1.eq_2 ..) (Ends.neg (by rw [hb']; decide) ?_)))))))
    refine Ends.neg (by rw [hb']; decide) (Ends.neg (by rw [hb']; decide) (Ends.neg (by rw [hb']; decide) (Ends.neg (by rw [hb']; decide) (Ends.pos hb' ?_))))
    exact hv
  have tail : (t ≠ [] ∨ R = []) → ∃ b : ER, b.Fine (t.length + 1) ∧ Ends (fun k => text_escape.f k (ba (117 :: t))) b.t ∧ ∃ v, b.Is v ∧ Ends (fun k => arboristref01_escape.j2 k (ba (117 :: t ++ R)) false) v := by
    intro hTR
    obtain ⟨b, hf, ht, hr⟩ := braced_both t R hT hR hTR 1 6 (by omega) (by omega)
    have open2 : ∀ v, Ends (fun k => (arboristref01_braced.f k (ba (t ++ R)) 1 6).bind fun bt227 => (if bt227.2.2 = 0 then (if bt227.1 > 1114111 then (some ((Utf8.encode (wrap32 (bt227.1))), wrap64 (1 + bt227.2.1), 3)) else (if bt227.1 ≥ 55296 then (if bt227.1 ≤ 57343 then (some ((Utf8.encode (wrap32 (bt227.1))), wrap64 (1 + bt227.2.1), 3)) else (some ((Utf8.encode (wrap32 (bt227.1))), wrap64 (1 + bt227.2.1), bt227.2.2))) else (some ((Utf8.encode (wrap32 (bt227.1))), wrap64 (1 + bt227.2.1), bt227.2.2)))) else (some ((Utf8.encode (wrap32 (bt227.1))), wrap64 (1 + bt227.2.1), bt227.2.2)))) v → Ends (fun k => arboristref01_escape.j2 k (ba (117 :: t ++ R)) false) v := by
      intro v hv
      refine Ends.step (fun k => arboristref01_escape.j2.eq_2 ..) (Ends.neg (by decide) (Ends.pos r1 ?_))
      rw [ba_drop]
      exact hv
    cases b with
    | un => exact ⟨.un, trivial, txt _ (Ends.bind ht (Ends.pos (by decide) (Ends.const _))), (_, _, 13), rfl, open2 (_, _, 13) (Ends.bind hr (Ends.neg (by decide) (Ends.const _)))⟩
    | fo => exact ⟨.fo, trivial, txt _ (Ends.bind ht (Ends.pos (by decide) (Ends.const _))), (_, _, 3), rfl, open2 (_, _, 3) (Ends.bind hr (Ends.neg (by decide) (Ends.const _)))⟩
    | ok n len =>
      obtain ⟨f1, f2, f3, f4⟩ := hf
      have n1 : len + 1 ≤ 4294967296 := by omega
      have ew : wrap64 (1 + (len : Int)) = ((len + 1 : Nat) : Int) := (congrArg wrap64 (by push_cast; omega)).trans (wrap_nat _ n1)
      have hw : wrap32 (n : Int) = (n : Int) := by unfold wrap32; omega
      have hge : ¬ ((len : Int) < 1) := by omega
      have EW := Aside0.mk ew
      have HW := Aside0.mk hw
      clear ew hw
      by_cases hv : n < 55296 ∨ (57343 < n ∧ n ≤ 1114111)
      · have hl2 := (Lib.runeCells_le (n : Int)).2
        rw [Lib.runeCells_length] at hl2
        refine ⟨.ok (Lib.encodeRune (n : Int)) (len + 1), ⟨by omega, by omega, by omega, by omega⟩, txt _ (Ends.bind ht (Ends.neg hge ?_)), (ba (Lib.encodeRune (n : Int)), ((len + 1 : Nat) : Int), 0), rfl, open2 _ (Ends.bind hr (Ends.pos rfl ?_))⟩
        · simp only [BR.t, HW.out, EW.out]
          refine Ends.bind (valid_ends n hv) (Ends.pos rfl ?_)
          rw [encode_ba]
          exact Ends.const _
        · simp only [BR.r, HW.out, EW.out, encode_ba]
          refine Ends.neg (by omega) ?_
          by_cases q : (n : Int) ≥ 55296
          · exact Ends.pos q (Ends.neg (by omega) (Ends.const _))
          · exact Ends.neg q (Ends.const _)
      · refine ⟨.fo, trivial, txt _ (Ends.bind ht (Ends.neg hge ?_)), (Utf8.encode (n : Int), ((len + 1 : Nat) : Int), 3), rfl, open2 _ (Ends.bind hr (Ends.pos rfl ?_))⟩
        · simp only [BR.t, HW.out, EW.out]
          exact Ends.bind (valid_not n hv) (Ends.neg (by decide) (Ends.const _))
        · simp only [BR.r, HW.out, EW.out]
          by_cases q : (n : Int) > 1114111
          · exact Ends.pos q (Ends.const _)
          · exact Ends.neg q (Ends.pos (by omega) (Ends.pos (by omega) (Ends.const _)))
  rcases t with _ | ⟨c2, t2⟩
  · rcases hR with rfl | ⟨r, rfl⟩
    · obtain ⟨b, hf, ht, v, hv, hr⟩ := tail (.inr rfl)
      exact ⟨b, hf, ht, v, hv, head v (Ends.neg (by rw [ba_size]; simp) hr)⟩
    · obtain ⟨q1, q2⟩ := bt_ba (l := [117] ++ 10 :: r) (i := 1) rfl
      have q2' : bt (ba ([117] ++ 10 :: r)) 1 = 10 := q2
      have q3 : 1 < ((ba ([117] ++ 10 :: r)).size : Int) := by omega
      refine ⟨.un, trivial, txt _ ?_, (⟨#[]⟩, 0, 13), rfl, head (⟨#[]⟩, 0, 13) (Ends.pos q3 (Ends.pos q3 (Ends.step (fun k => arboristref01_escape.j2.eq_2 ..) (Ends.pos (by rw [q2']; decide) (Ends.const _)))))⟩
      have hb2 : Ends (fun k => text_braced.f k (ba []) 1 6) (0, -1) := by
        unfold text_braced.f
        exact Ends.pos (by simp [ByteArray.toList_eq, ba]) (Ends.const _)
      exact Ends.bind hb2 (Ends.pos (by decide) (Ends.const _))
  · obtain ⟨q1, q2⟩ := bt_ba (l := 117 :: c2 :: t2 ++ R) (i := 1) rfl
    have q2' : bt (ba (117 :: c2 :: t2 ++ R)) 1 = (c2.toNat : Int) := q2
    have q3 : 1 < ((ba (117 :: c2 :: t2 ++ R)).size : Int) := by omega
    have hc2 : c2.toNat ≠ 10 := fun e => hT c2 List.mem_cons_self (byte_eq (n := 10) (by omega) e)
    have e1 : (bt (ba (117 :: c2 :: t2 ++ R)) 1 == 10) = false := by rw [q2']; simp; omega
    obtain ⟨b, hf, ht, v, hv, hr⟩ := tail (.inl (by simp))
    refine ⟨b, hf, ht, v, hv, head v (Ends.pos q3 (Ends.pos q3 ?_))⟩
    rw [e1]
    exact hr
theorem escape_both (T R : List UInt8) (hT : ∀ c ∈ T, c ≠ 10) (hR : Behind R) :
    ∃ b : ER, b.Fine T.length ∧ Ends (fun k => text_escape.f k (ba T)) b.t ∧ ∃ v, b.Is v ∧ Ends (fun k => arboristref01_escape.f k (ba (T ++ R))) v := by
  rcases T with _ | ⟨c, t⟩
  · refine ⟨.un, trivial, ?_, (⟨#[]⟩, 0, 13), rfl, ?_⟩
    · unfold text_escape.f
      exact Ends.pos (by simp [ByteArray.toList_eq, ba]) (Ends.const _)
    · unfold arboristref01_escape.f
      rcases hR with rfl | ⟨r, rfl⟩
      · exact Ends.pos (by simp [ByteArray.toList_eq, ba]) (Ends.step (fun k => arboristref01_escape.j0.eq_2 ..) (Ends.pos rfl (Ends.const _)))
      · obtain ⟨q1, q2⟩ := bt_ba (l := [] ++ 10 :: r) (i := 0) rfl
        have q2' : bt (ba ([] ++ 10 :: r)) 0 = 10 := q2
        exact Ends.neg (by simp [ByteArray.toList_eq, ba]) (Ends.pos (by omega) (Ends.step (fun k => arboristref01_escape.j0.eq_2 ..) (Ends.pos (by rw [q2']; decide) (Ends.const _))))
  have hT' : ∀ c ∈ t, c ≠ 10 := fun x hx => hT x (List.mem_cons_of_mem _ hx)
  have hc10 : c.toNat ≠ 10 := fun e => hT c List.mem_cons_self (byte_eq (n := 10) (by omega) e)
  obtain ⟨p1, p2⟩ := bt_ba (l := c :: t) (i := 0) rfl
  obtain ⟨q1, q2⟩ := bt_ba (l := c :: t ++ R) (i := 0) rfl
  have hb : bt (ba (c :: t)) 0 = (c.toNat : Int) := p2
  have hb' : bt (ba (c :: t ++ R)) 0 = (c.toNat : Int) := q2
  have s0 : 0 < ((ba (c :: t)).size : Int) := by omega
  have r0 : 0 < ((ba (c :: t ++ R)).size : Int) := by omega
  have r1 : 1 ≤ ((ba (c :: t ++ R)).size : Int) := by omega
  clear p1 p2 q1 q2
  have cut : (ba (c :: t ++ R)).extract 0 1 = ba [c] := by
    refine ba_ext ?_
    rw [ba_list]
    simp [ba, ByteArray.data_extract]
  have one : ∀ d : UInt8, ER.Fine (c :: t).length (.ok [d] 1) := fun d => ⟨by simp, by omega, by simp, by omega⟩
  have ref : ∀ v, Ends (fun k => if bt (ba (c :: t ++ R)) 0 = 34 then (arboristref01_escape.j1 k (ba (c :: t ++ R)) (bt (ba (c :: t ++ R)) 0) ((bt (ba (c :: t ++ R)) 0) == 34)) else (arboristref01_escape.j1 k (ba (c :: t ++ R)) (bt (ba (c :: t ++ R)) 0) ((bt (ba (c :: t ++ R)) 0) == 92))) v → Ends (fun k => arboristref01_escape.f k (ba (c :: t ++ R))) v := by
    intro v hv
    unfold arboristref01_escape.f
    exact Ends.neg (by rw [ByteArray.toList_eq, ba_list]; simp) (Ends.pos r0 (Ends.step (fun k => arboristref01_escape.j0.eq_2 ..) (Ends.neg (by rw [hb']; simp; omega) (Ends.pos r0 hv))))
  by_cases h34 : c.toNat = 34
  · obtain rfl : c = 34 := byte_eq (n := 34) (by omega) h34
    refine ⟨.ok [34] 1, one _, esc_char 34 0 t 34 (by omega) (by decide) (by decide), _, rfl, ref _ (Ends.pos hb' (Ends.step (fun k => arboristref01_escape.j1.eq_2 ..) (Ends.pos (by rw [hb']; decide) (Ends.pos (by decide) (Ends.pos r1 ?_)))))⟩
    rw [cut]; exact Ends.const _
  by_cases h92 : c.toNat = 92
  · obtain rfl : c = 92 := byte_eq (n := 92) (by omega) h92
    refine ⟨.ok [92] 1, one _, esc_char 92 1 t 92 (by omega) (by decide) (by decide), _, rfl, ref _ (Ends.neg (by rw [hb']; decide) (Ends.step (fun k => arboristref01_escape.j1.eq_2 ..) (Ends.pos (by rw [hb']; decide) (Ends.pos (by decide) (Ends.pos r1 ?_)))))⟩
    rw [cut]; exact Ends.const _
  by_cases h110 : c.toNat = 110
  · obtain rfl : c = 110 := byte_eq (n := 110) (by omega) h110
    refine ⟨.ok [10] 1, one _, esc_char 110 2 t 10 (by omega) (by decide) (by decide), _, rfl, ref _ (Ends.neg (by rw [hb']; decide) (Ends.step (fun k => arboristref01_escape.j1.eq_2 ..) (Ends.neg (by rw [hb']; decide) (Ends.pos hb' (Ends.const _)))))⟩
  by_cases h114 : c.toNat = 114
  · obtain rfl : c = 114 := byte_eq (n := 114) (by omega) h114
    refine ⟨.ok [13] 1, one _, esc_char 114 3 t 13 (by omega) (by decide) (by decide), _, rfl, ref _ (Ends.neg (by rw [hb']; decide) (Ends.step (fun k => arboristref01_escape.j1.eq_2 ..) (Ends.neg (by rw [hb']; decide) (Ends.neg (by rw [hb']; decide) (Ends.pos hb' (Ends.const _))))))⟩
  by_cases h116 : c.toNat = 116
  · obtain rfl : c = 116 := byte_eq (n := 116) (by omega) h116
    refine ⟨.ok [9] 1, one _, esc_char 116 4 t 9 (by omega) (by decide) (by decide), _, rfl, ref _ (Ends.neg (by rw [hb']; decide) (Ends.step (fun k => arboristref01_escape.j1.eq_2 ..) (Ends.neg (by rw [hb']; decide) (Ends.neg (by rw [hb']; decide) (Ends.neg (by rw [hb']; decide) (Ends.pos hb' (Ends.const _)))))))⟩
  by_cases h120 : c.toNat = 120
  · obtain rfl : c = 120 := byte_eq (n := 120) (by omega) h120
    exact esc_bx t R hT' hR hb hb'
  by_cases h117 : c.toNat = 117
  · obtain rfl : c = 117 := byte_eq (n := 117) (by omega) h117
    exact esc_bu t R hT' hR hb hb'
  refine ⟨.fo, trivial, ?_, (⟨#[]⟩, 0, 3), rfl, ref _ (Ends.neg (by omega) (Ends.step (fun k => arboristref01_escape.j1.eq_2 ..) (Ends.neg (by rw [hb']; simp; omega) (Ends.neg (by omega) (Ends.neg (by omega) (Ends.neg (by omega) (Ends.neg (by omega) (Ends.neg (by omega) (Ends.const _)))))))))⟩
  unfold text_escape.f
  refine Ends.neg (by rw [ByteArray.toList_eq, ba_list]; simp) (Ends.pos s0 (Ends.bind0 (a := -1) (by rw [hb]; exact ib_esc c _ (ib_none c ⟨h34, h92, h110, h114, h116⟩)) (Ends.neg (by decide) (Ends.neg (by omega) (Ends.neg (by omega) (Ends.const _))))))
end Go.Proofs.YthijdjpipjbkbaaDoor.H
end
section
namespace Go.Proofs.YthijdjpipjbkbaaDoor.H
open Go.RowKit Go.Proofs.YthijdjpipjbkbaaDoorW.PrintWords Go.Proofs.YthijdjpipjbkbaaDoorW.PrintLast Go.Proofs.YthijdjpipjbkbaaDoorW.PrintMore
set_option linter.unusedVariables false
set_option linter.unusedSimpArgs false
theorem cut_line : ∀ l : List UInt8, (Lib.cut l [10]).1 = l.takeWhile (fun c => c != 10)
  | [] => rfl
  | b :: l => by
    have ih := cut_line l
    have hge := Lib.index_ge l [10]
    unfold Lib.cut at ih ⊢
    by_cases h : b = 10
    · subst h
      have hi : Lib.index (10 :: l) [10] = 0 := by rw [Lib.index, if_pos (by simp)]
      rw [hi]
      simp
    · have hb : ¬ List.isPrefixOf [10] (b :: l) = true := by
        simp only [List.isPrefixOf, Bool.and_true, beq_iff_eq]
        exact fun q => h q.symm
      have hi : Lib.index (b :: l) [10] = if (Lib.index l [10] == -1) = true then -1 else Lib.index l [10] + 1 := by rw [Lib.index, if_neg hb]
      rw [hi, List.takeWhile_cons_of_pos (by simpa using h)]
      by_cases q : Lib.index l [10] = -1
      · have q1 : (Lib.index l [10] == -1) = true := by simpa using q
        have q2 : ¬ 0 ≤ Lib.index l [10] := by omega
        rw [if_pos q1, if_neg (by decide)]
        rw [if_neg q2] at ih
        exact congrArg (List.cons b) ih
      · have q1 : ¬ (Lib.index l [10] == -1) = true := by simpa using q
        have q2 : 0 ≤ Lib.index l [10] := by omega
        rw [if_neg q1, if_pos (by omega)]
        rw [if_pos q2] at ih
        show List.take _ _ = _
        rw [show (Lib.index l [10] + 1).toNat = (Lib.index l [10]).toNat + 1 by omega, List.take_succ_cons]
        exact congrArg (List.cons b) ih
theorem lineOf_eq (s : ByteArray) : lineOf s = ba (s.data.toList.takeWhile (fun c => c != 10)) := ba_ext (by unfold lineOf; rw [cut_line, ba_list])
theorem dec_ascii {L : List UInt8} {p : Nat} {c : UInt8} {t : List UInt8} (h : L.drop p = c :: t) (hc : c.toNat < 128) : p < (ba L).size ∧ Utf8.decode (ba L) p = (c.toNat, 1) := by
  obtain ⟨hi, _, hg⟩ := drop_cons h
  have hs : p < (ba L).size := by rw [ba_size]; exact hi
  have e : (ba L)[p]'hs = c := by
    have hl := List.getElem?_eq_getElem hi
    have h0 := hg 0
    rw [List.getD_eq_getElem?_getD, hl] at h0
    rw [← h0]; rfl
  exact ⟨hs, by have := decode_ascii (ba L) p hs (by rw [e]; exact hc); rw [this, e]⟩
theorem line_byte {T : List UInt8} (hT : ∀ c ∈ T, c ≠ 10) (p : Nat) (hp : p < T.length) (hr : (Utf8.decode (ba T) p).1 = 10) : False := by
  have hs : p < (ba T).size := by rw [ba_size]; exact hp
  obtain ⟨h1, h2⟩ := rune_ascii hs (by omega)
  have h3 := byte_drop (ba T) p hs
  rw [ba_list] at h3
  have hc : ((ba T)[p]'hs).toNat = 10 := by rw [h1] at hr; exact hr
  have : (ba T)[p]'hs ∈ T.drop p := by rw [h3]; exact List.mem_cons_self
  exact hT _ (List.mem_of_mem_drop this) (byte_eq (n := 10) (by omega) hc)
theorem unquote_both (T R : List UInt8) (hT : ∀ c ∈ T, c ≠ 10) (hR : Behind R) (hn : T.length ≤ 1000000) : ∀ (d p : Nat) (acc : List UInt8), T.length ≤ p + d → p ≤ T.length → acc.length ≤ 4 * p →
    ∃ v, Ends (fun k => text_Unquote.l0 k (ba T) acc p) v ∧ Ends (fun k => arboristref01_Unquote.l0 k (ba (T ++ R)) (ba acc) (p : Int)) v := by
  have last : ∀ (p : Nat) (acc : List UInt8), p = T.length → ∃ v, Ends (fun k => text_Unquote.l0 k (ba T) acc p) v ∧ Ends (fun k => arboristref01_Unquote.l0 k (ba (T ++ R)) (ba acc) (p : Int)) v := by
    intro p acc e
    refine ⟨(⟨#[]⟩, 0, 13), Ends.step (fun k => text_Unquote.l0.eq_2 ..) (Ends.neg (by rw [ba_size]; omega) (Ends.const _)), Ends.step (fun k => arboristref01_Unquote.l0.eq_2 ..) ?_⟩
    rcases hR with rfl | ⟨r, rfl⟩
    · exact Ends.neg (by rw [ba_size]; simp; omega) (Ends.const _)
    · have hd : (T ++ 10 :: r).drop p = 10 :: r := by subst e; simp
      obtain ⟨s1, s2⟩ := dec_ascii hd (by decide)
      refine Ends.pos (by omega) (Ends.pos (by omega) (Ends.pos (by omega) (Ends.bind0 (by rw [Int.toNat_natCast]; exact one_tail _ p s1) ?_)))
      rw [s2]
      exact Ends.neg (by decide) (Ends.pos (by decide) (Ends.const _))
  intro d
  induction d with
  | zero => intro p acc h1 h2 h3; exact last p acc (by omega)
  | succ d ih =>
    intro p acc h1 h2 h3
    by_cases hp : p < T.length
    case neg => exact last p acc (by omega)
    have hs : p < (ba T).size := by rw [ba_size]; exact hp
    have hs2 : p < (ba (T ++ R)).size := by rw [ba_size, List.length_append]; omega
    have w1 := rune_w_pos (ba T) p
    have w2 := rune_w_le (ba T) p hs
    have h10 : (Utf8.decode (ba T) p).1 ≠ 10 := fun e => line_byte hT p hp e
    have hdrop := byte_drop (ba T) p hs
    have hasc := fun q => rune_ascii (s := ba T) (pos := p) hs q
    have henc : ¬ ((Utf8.decode (ba T) p).1 = 65533 ∧ (Utf8.decode (ba T) p).2 = 1) → Lib.encodeRune ((Utf8.decode (ba T) p).1 : Int) = (T.drop p).take (Utf8.decode (ba T) p).2 := fun q => by
      have e : Lib.decodeL (T.drop p) = Utf8.decode (ba T) p := by
        have h1 := Lib.tail_decode (ba T) p 0
        rw [ba_drop] at h1
        exact h1
      have h3 := Lib.encode_decode (T.drop p) (by rw [ba_list] at hdrop; rw [hdrop]; simp) (by rw [e]; exact q)
      rw [e] at h3
      exact h3
    have hone := one_tail (ba (T ++ R)) p hs2
    rw [decode_line T R hR p hp] at hone
    rw [ba_size] at w2
    obtain ⟨r, hr⟩ : ∃ r, (Utf8.decode (ba T) p).1 = r := ⟨_, rfl⟩
    obtain ⟨wd, hw⟩ : ∃ wd, (Utf8.decode (ba T) p).2 = wd := ⟨_, rfl⟩
    have hrl := Lib.rune_le (ba T) p
    rw [hr] at h10 hasc henc hone hrl
    rw [hw] at w1 w2 henc hone
    have n1 : p + 1 ≤ 4294967296 := by omega
    have n2 : p + wd ≤ 4294967296 := by omega
    have TX : ∀ v, Ends (fun k => if r = 34 then some ((⟨acc.toArray⟩ : ByteArray), (p : Int) + 1, (0 : Int))
       else if r = 92 then (text_escape.f k (ba (T.drop (p + 1)))).bind fun t =>
         if t.2 < 0 then some (⟨#[]⟩, 0, 13) else if t.2 = 0 then some (⟨#[]⟩, 0, 3)
         else if acc.length + t.1.size ≤ 140737488355000 then (if t.2 ≤ 4294967296 then text_Unquote.l0 k (ba T) (acc ++ t.1.data.toList) (p + (1 + t.2.toNat)) else none) else none
       else if r < 32 ∨ r = 127 ∨ (r = 65533 ∧ wd = 1) then some (⟨#[]⟩, 0, 3)
       else if acc.length ≤ 140737488355000 then text_Unquote.l0 k (ba T) (acc ++ Lib.encodeRune (r : Int)) (p + wd) else none) v → Ends (fun k => text_Unquote.l0 k (ba T) acc p) v := by
      intro v hv
      refine Ends.step (fun k => text_Unquote.l0.eq_2 ..) (Ends.pos hs ?_)
      simp only [hr, hw, ba_drop]
      exact hv
    have RX : ∀ v, Ends (fun k => (if (r : Int) = 34 then (some (ba acc, wrap64 ((p : Int) + 1), (0 : Int))) else (if (r : Int) = 10 then (some ((⟨#[]⟩ : ByteArray), 0, 13)) else (if (r : Int) = 92 then (if 0 ≤ (wrap64 ((p : Int) + 1)) then (if (wrap64 ((p : Int) + 1)) ≤ ((ba (T ++ R)).size : Int) then ((arboristref01_escape.f k ((ba (T ++ R)).extract ((wrap64 ((p : Int) + 1)) : Int).toNat (ba (T ++ R)).size)).bind fun bt232 => (if bt232.2.2 = 0 then (if (ba acc).size + bt232.1.size ≤ 9223372036854775807 then (arboristref01_Unquote.l0 k (ba (T ++ R)) (ba acc ++ bt232.1) (wrap64 ((p : Int) + (wrap64 (1 + bt232.2.1))))) else (none)) else (some ((⟨#[]⟩ : ByteArray), 0, bt232.2.2)))) else (none)) else (none)) else (if (r : Int) < 32 then (some ((⟨#[]⟩ : ByteArray), 0, 3)) else (if (r : Int) = 127 then (some ((⟨#[]⟩ : ByteArray), 0, 3)) else ((arboristref01_Invalid.f (r : Int) 0 (wd : Int)).bind fun t235 => (if t235 = true then (some ((⟨#[]⟩ : ByteArray), 0, 3)) else (if (p : Int) ≤ (wrap64 ((p : Int) + (wd : Int))) then (if (wrap64 ((p : Int) + (wd : Int))) ≤ ((ba (T ++ R)).size : Int) then (if (ba acc).size + ((ba (T ++ R)).extract (p : Int).toNat ((wrap64 ((p : Int) + (wd : Int))) : Int).toNat).size ≤ 9223372036854775807 then (arboristref01_Unquote.l0 k (ba (T ++ R)) (ba acc ++ ((ba (T ++ R)).extract (p : Int).toNat ((wrap64 ((p : Int) + (wd : Int))) : Int).toNat)) (wrap64 ((p : Int) + (wd : Int)))) else (none)) else (none)) else (none)))))))))) v → Ends (fun k => arboristref01_Unquote.l0 k (ba (T ++ R)) (ba acc) (p : Int)) v := by
      intro v hv
      exact Ends.step (fun k => arboristref01_Unquote.l0.eq_2 ..) (Ends.pos (by omega) (Ends.pos (by omega) (Ends.pos (by omega) (Ends.bind0 (by rw [Int.toNat_natCast]; exact hone) hv))))
    have HO := Aside0.mk hone
    clear hone hr hw
    have e1 : wrap64 ((p : Int) + 1) = ((p + 1 : Nat) : Int) := (congrArg wrap64 (by push_cast; rfl)).trans (wrap_nat _ n1)
    have e2 : wrap64 ((p : Int) + (wd : Int)) = ((p + wd : Nat) : Int) := (congrArg wrap64 (by push_cast; rfl)).trans (wrap_nat _ n2)
    have E1 := Aside0.mk e1
    have E2 := Aside0.mk e2
    clear e1 e2
    by_cases h34 : r = 34
    · refine ⟨(ba acc, (p : Int) + 1, 0), TX _ (Ends.pos h34 (Ends.const _)), RX _ (Ends.pos (by omega) ?_)⟩
      rw [E1.out]
      exact (Ends.const _).val (by push_cast; rfl)
    by_cases h92 : r = 92
    · have hd1 : (T ++ R).drop (p + 1) = T.drop (p + 1) ++ R := List.drop_append_of_le_length (by omega)
      obtain ⟨b, hf, ht, v, hv, hre⟩ := escape_both (T.drop (p + 1)) R (fun c hc => hT c (List.mem_of_mem_drop hc)) hR
      have i34 : ¬ ((r : Int) = 34) := by omega
      have i10 : ¬ ((r : Int) = 10) := by omega
      have i92 : (r : Int) = 92 := by omega
      have z0 : (0 : Int) ≤ ((p + 1 : Nat) : Int) := by omega
      have z1 : ((p + 1 : Nat) : Int) ≤ ((ba (T ++ R)).size : Int) := by omega
      have RX2 : ∀ v2, Ends (fun k => if v.2.2 = 0 then (if (ba acc).size + v.1.size ≤ 9223372036854775807 then (arboristref01_Unquote.l0 k (ba (T ++ R)) (ba acc ++ v.1) (wrap64 ((p : Int) + (wrap64 (1 + v.2.1))))) else (none)) else (some ((⟨#[]⟩ : ByteArray), 0, v.2.2))) v2 → Ends (fun k => arboristref01_Unquote.l0 k (ba (T ++ R)) (ba acc) (p : Int)) v2 := by
        intro v2 hv2
        refine RX _ (Ends.neg i34 (Ends.neg i10 (Ends.pos i92 ?_)))
        rw [E1.out, Int.toNat_natCast, ba_drop, hd1]
        exact Ends.pos z0 (Ends.pos z1 (Ends.bind hre hv2))
      cases b with
      | un =>
        have h13 : v.2.2 = 13 := hv
        refine ⟨_, TX _ (Ends.neg h34 (Ends.pos h92 (Ends.bind ht (Ends.pos (by decide) (Ends.const _))))), RX2 _ (Ends.neg (by omega) ?_)⟩
        rw [h13]; exact Ends.const _
      | fo =>
        have h3' : v.2.2 = 3 := hv
        refine ⟨_, TX _ (Ends.neg h34 (Ends.pos h92 (Ends.bind ht (Ends.neg (by decide) (Ends.pos rfl (Ends.const _)))))), RX2 _ (Ends.neg (by omega) ?_)⟩
        rw [h3']; exact Ends.const _
      | ok dd len =>
        obtain ⟨f1, f2, f3, f4⟩ := hf
        rw [List.length_drop] at f3
        obtain rfl : v = (ba dd, (len : Int), 0) := hv
        obtain ⟨v2, g1, g2⟩ := ih (p + (1 + len)) (acc ++ dd) (by omega) (by omega) (by rw [List.length_append]; omega)
        have n3 : 1 + len ≤ 4294967296 := by omega
        have n4 : p + (1 + len) ≤ 4294967296 := by omega
        have e3 : wrap64 (1 + (len : Int)) = ((1 + len : Nat) : Int) := (congrArg wrap64 (by push_cast; rfl)).trans (wrap_nat _ n3)
        have e4 : wrap64 ((p : Int) + ((1 + len : Nat) : Int)) = ((p + (1 + len) : Nat) : Int) := (congrArg wrap64 (by push_cast; rfl)).trans (wrap_nat _ n4)
        have E3 := Aside0.mk e3
        have E4 := Aside0.mk e4
        clear e3 e4
        have k1 : ¬ ((len : Int) < 0) := by omega
        have k2 : ¬ ((len : Int) = 0) := by omega
        have k3 : acc.length + (ba dd).size ≤ 140737488355000 := by rw [ba_size]; omega
        have k4 : (len : Int) ≤ 4294967296 := by omega
        have k5 : (ba acc).size + (ba dd).size ≤ 9223372036854775807 := by rw [ba_size, ba_size]; omega
        refine ⟨v2, TX _ (Ends.neg h34 (Ends.pos h92 (Ends.bind ht ?_))), RX2 _ (Ends.pos rfl (Ends.pos k5 ?_))⟩
        · simp only [ER.t, ba_list, Int.toNat_natCast]
          exact Ends.neg k1 (Ends.neg k2 (Ends.pos k3 (Ends.pos k4 g1)))
        · simp only [E3.out, E4.out, ba_app]
          exact g2
    by_cases hbad : r < 32 ∨ r = 127 ∨ (r = 65533 ∧ wd = 1)
    · refine ⟨(⟨#[]⟩, 0, 3), TX _ (Ends.neg h34 (Ends.neg h92 (Ends.pos hbad (Ends.const _)))), RX _ (Ends.neg (by omega) (Ends.neg (by omega) (Ends.neg (by omega) ?_)))⟩
      by_cases h32 : (r : Int) < 32
      · exact Ends.pos h32 (Ends.const _)
      refine Ends.neg h32 ?_
      by_cases h127 : (r : Int) = 127
      · exact Ends.pos h127 (Ends.const _)
      refine Ends.neg h127 ?_
      have hiv : arboristref01_Invalid.f (r : Int) 0 (wd : Int) = some true := by
        unfold arboristref01_Invalid.f
        rw [if_pos (by omega)]
        simp; omega
      exact Ends.bind0 hiv (Ends.pos rfl (Ends.const _))
    · have hen := henc (by omega)
      have hl2 := (Lib.runeCells_le (r : Int)).2
      rw [Lib.runeCells_length] at hl2
      have hlen : (Lib.encodeRune (r : Int)).length ≤ 4 * wd := by omega
      obtain ⟨v2, g1, g2⟩ := ih (p + wd) (acc ++ Lib.encodeRune (r : Int)) (by omega) w2 (by rw [List.length_append]; omega)
      have hiv : arboristref01_Invalid.f (r : Int) 0 (wd : Int) = some false := by
        unfold arboristref01_Invalid.f
        by_cases q : (r : Int) = 65533
        · rw [if_pos q]; simp; omega
        · rw [if_neg q]
      have hex : (ba (T ++ R)).extract p (p + wd) = ba (Lib.encodeRune (r : Int)) := by
        refine ba_ext ?_
        rw [ba_list, hen]
        simp only [ba, ByteArray.data_extract]
        simp
        rw [List.drop_append_of_le_length (by omega), List.take_append_of_le_length (by rw [List.length_drop]; omega)]
      refine ⟨v2, TX _ (Ends.neg h34 (Ends.neg h92 (Ends.neg hbad (Ends.pos (by omega) g1)))), RX _ (Ends.neg (by omega) (Ends.neg (by omega) (Ends.neg (by omega) (Ends.neg (by omega) (Ends.neg (by omega) (Ends.bind0 hiv (Ends.neg (by decide) ?_)))))))⟩
      rw [E2.out, Int.toNat_natCast, Int.toNat_natCast, hex, ba_app]
      exact Ends.pos (by omega) (Ends.pos (by rw [ba_size, List.length_append]; omega) (Ends.pos (by rw [ba_size, ba_size]; omega) g2))
theorem behind_line (l : List UInt8) : Behind (l.dropWhile (fun c => c != 10)) := by
  induction l with
  | nil => exact .inl rfl
  | cons c l ih =>
    by_cases h : c = 10
    · subst h; exact .inr ⟨l, by simp [List.dropWhile]⟩
    · rw [List.dropWhile_cons_of_pos (by simpa using h)]; exact ih
theorem line_mem (l : List UInt8) : ∀ c ∈ l.takeWhile (fun c => c != 10), c ≠ 10 := by
  induction l with
  | nil => simp
  | cons c l ih =>
    by_cases h : c = 10
    · subst h; simp [List.takeWhile]
    · rw [List.takeWhile_cons_of_pos (by simpa using h)]
      intro x hx
      rcases List.mem_cons.1 hx with rfl | hx
      · exact h
      · exact ih x hx
theorem unquote_same (s : ByteArray) (hs : s.size ≤ 1000000) : ∃ v, Ends (fun k => text_Unquote.f k s) v ∧ Ends (fun k => arboristref01_Unquote.f k s) v := by
  obtain ⟨l, rfl⟩ : ∃ l, s = ba l := ⟨_, ba_of s⟩
  have hT := line_mem l
  have hR := behind_line l
  have hl : l.takeWhile (fun c => c != 10) ++ l.dropWhile (fun c => c != 10) = l := List.takeWhile_append_dropWhile
  have hlen : (l.takeWhile (fun c => c != 10)).length ≤ l.length := List.Sublist.length_le (List.takeWhile_sublist _)
  rw [ba_size] at hs
  have hz : (ba l).size < 4294967281 := by rw [ba_size]; omega
  have eL : lineOf (ba l) = ba (l.takeWhile (fun c => c != 10)) := by rw [lineOf_eq, ba_list]
  unfold text_Unquote.f arboristref01_Unquote.f
  rw [eL]
  rcases l with _ | ⟨c, t⟩
  · refine ⟨(⟨#[]⟩, 0, 3), Ends.pos hz (Ends.neg (by rw [ba_list]; decide) (Ends.const _)), Ends.pos (by simp [ByteArray.toList_eq, ba]) (Ends.step (fun k => arboristref01_Unquote.j0.eq_2 ..) (Ends.pos rfl (Ends.const _)))⟩
  · obtain ⟨q1, q2⟩ := bt_ba (l := c :: t) (i := 0) rfl
    have hb : bt (ba (c :: t)) 0 = (c.toNat : Int) := q2
    have s0 : 0 < ((ba (c :: t)).size : Int) := by omega
    by_cases h : c.toNat = 34
    · obtain rfl : c = 34 := byte_eq (n := 34) (by omega) h
      have e34 : (bt (ba (34 :: t)) 0 != 34) = false := by rw [hb]; decide
      have e1 : 1 ≤ ((34 :: t).takeWhile (fun c => c != 10)).length := by
        rw [List.takeWhile_cons_of_pos (by decide)]; simp
      obtain ⟨v, g1, g2⟩ := unquote_both _ _ hT hR (by omega) ((34 :: t).takeWhile (fun c => c != 10)).length 1 [] (by omega) e1 (by simp)
      rw [hl] at g2
      refine ⟨v, Ends.pos hz (Ends.pos (by rw [ba_list]; rfl) g1), Ends.neg (by rw [ByteArray.toList_eq, ba_list]; simp) (Ends.pos s0 (Ends.step (fun k => arboristref01_Unquote.j0.eq_2 ..) ?_))⟩
      rw [e34]
      exact Ends.neg (by decide) g2
    · have hne : c ≠ 34 := fun e => h (by rw [e]; rfl)
      have e34 : (bt (ba (c :: t)) 0 != 34) = true := by rw [hb]; simp; omega
      refine ⟨(⟨#[]⟩, 0, 3), Ends.pos hz (Ends.neg (by rw [ba_list]; simp [Lib.hasPrefix, List.isPrefixOf]; exact fun e => hne e.symm) (Ends.const _)), Ends.neg (by rw [ByteArray.toList_eq, ba_list]; simp) (Ends.pos s0 (Ends.step (fun k => arboristref01_Unquote.j0.eq_2 ..) (Ends.pos e34 (Ends.const _))))⟩
theorem unq_bound : ∀ (k : Nat) (line : ByteArray) (acc : List UInt8) (p : Nat) (t : ByteArray) (n : Int), text_Unquote.l0 k line acc p = some (t, n, 0) → (p : Int) + 1 ≤ n ∧ n ≤ (line.size : Int) := by
  intro k
  induction k with
  | zero => intro line acc p t n h; simp [text_Unquote.l0] at h
  | succ k ih =>
    intro line acc p t n h
    have w1 := rune_w_pos line p
    simp only [text_Unquote.l0] at h
    split at h
    case isFalse => simp at h
    rename_i hp
    split at h
    · simp only [Option.some.injEq, Prod.mk.injEq] at h
      obtain ⟨_, rfl, _⟩ := h
      omega
    split at h
    · obtain ⟨x, _, h⟩ := Option.bind_eq_some_iff.1 h
      split at h
      · simp at h
      split at h
      · simp at h
      split at h
      · split at h
        · have := ih _ _ _ _ _ h; omega
        · cases h
      · cases h
    split at h
    · simp at h
    split at h
    · have := ih _ _ _ _ _ h; omega
    · cases h
end Go.Proofs.YthijdjpipjbkbaaDoor.H
end
section
namespace Go.Proofs.YthijdjpipjbkbaaDoor.H
open Go.RowKit Go.Proofs.YthijdjpipjbkbaaDoorW.PrintWords Go.Proofs.YthijdjpipjbkbaaDoorW.PrintLast Go.Proofs.YthijdjpipjbkbaaDoorW.PrintMore
set_option linter.unusedVariables false
set_option linter.unusedSimpArgs false
section
set_option maxRecDepth 100000
theorem cls_letter (c : Nat) (h : c < 256) (hl : letB c = true) : cls c = 1 := by
  have H : ∀ c : Fin 256, letB (c : Nat) = true → cls (c : Nat) = 1 := by decide
  exact H ⟨c, h⟩ hl
theorem cls_digit (c : Nat) (h : c < 256) (hl : letB c = false) (hd : digB c = true) : cls c = 2 := by
  have H : ∀ c : Fin 256, letB (c : Nat) = false → digB (c : Nat) = true → cls (c : Nat) = 2 := by decide
  exact H ⟨c, h⟩ hl hd
def isSign (c : Nat) : Bool := c == 35 || c == 61 || c == 124 || c == 59 || c == 58 || c == 40 || c == 41 || c == 63 || c == 42 || c == 43 || c == 44
theorem cls_rest (c : Nat) (h : c < 256) (hl : letB c = false) (hd : digB c = false) (h1 : c ≠ 34) (h2 : c ≠ 47) (h3 : c ≠ 37) : cls c = 7 ∨ ((cls c = 6 ∨ cls c = 8) ∧ isSign c = true) ∨ (cls c = 0 ∧ isSign c = false) := by
  have H : ∀ c : Fin 256, letB (c : Nat) = false → digB (c : Nat) = false → (c : Nat) ≠ 34 → (c : Nat) ≠ 47 → (c : Nat) ≠ 37 → cls (c : Nat) = 7 ∨ ((cls (c : Nat) = 6 ∨ cls (c : Nat) = 8) ∧ isSign (c : Nat) = true) ∨ (cls (c : Nat) = 0 ∧ isSign (c : Nat) = false) := by decide
  exact H ⟨c, h⟩ hl hd h1 h2 h3
end
theorem ext_dt (s : ByteArray) (a b : Nat) : (s.extract a b).data.toList = (s.data.toList.drop a).take (b - a) := by
  rw [ByteArray.data_extract, Array.toList_extract, List.extract_eq_take_drop]
theorem trim_val (x : ByteArray) (h : x.size ≤ 9223372036854775807) : strings_Trim.f x digitsS = some ⟨(Lib.trimS x.data.toList digitsS.data.toList).toArray⟩ := by
  unfold strings_Trim.f
  rw [if_pos (rfl : digitsS = digitsS), if_pos h]
section
set_option maxRecDepth 100000
theorem dig_in : ∀ n : Fin 256, digitsS.data.toList.contains (UInt8.ofNat (n : Nat)) = digB (n : Nat) := by decide
end
theorem trim_nil (l : List UInt8) : ((⟨(Lib.trimS l digitsS.data.toList).toArray⟩ : ByteArray).toList = ([] : List UInt8)) ↔ (l.all fun c => digB c.toNat) = true := by
  have hc : ∀ c : UInt8, digitsS.data.toList.contains c = digB c.toNat := fun c => by
    have h := dig_in ⟨c.toNat, c.toNat_lt⟩
    simpa using h
  have dw : ∀ l : List UInt8, l.dropWhile (digitsS.data.toList.contains ·) = [] ↔ (l.all fun c => digB c.toNat) = true := by
    intro l
    induction l with
    | nil => simp
    | cons c r ih =>
      rw [List.dropWhile_cons, List.all_cons, hc c]
      cases digB c.toNat with
      | true => simpa using ih
      | false => simp
  have dn : ∀ l : List UInt8, ∀ c ∈ l.dropWhile (digitsS.data.toList.contains ·), c ∈ l := fun l c h => (List.dropWhile_sublist _).subset h
  rw [Lib.toList_data]
  show Lib.trimS l digitsS.data.toList = [] ↔ _
  unfold Lib.trimS Lib.trimLeftS Lib.trimRightS
  rw [dw, List.all_reverse]
  constructor
  · intro h
    by_cases hr : l.reverse.dropWhile (digitsS.data.toList.contains ·) = []
    · have := (dw _).1 hr
      rwa [List.all_reverse] at this
    · obtain ⟨c, r, hcr⟩ := List.exists_cons_of_ne_nil hr
      have h1 := List.head_dropWhile_not (digitsS.data.toList.contains ·) hr
      simp only [hcr, List.head_cons] at h1
      rw [hcr, List.all_cons] at h
      rw [hc c] at h1
      rw [h1] at h
      simp at h
  · intro h
    rw [List.all_eq_true] at h ⊢
    intro c hc2
    exact h c (by simpa using dn _ c hc2)
theorem sign_cases {c : Nat} (h : isSign c = true) : c = 35 ∨ c = 61 ∨ c = 124 ∨ c = 59 ∨ c = 58 ∨ c = 40 ∨ c = 41 ∨ c = 63 ∨ c = 42 ∨ c = 43 ∨ c = 44 := by
  unfold isSign at h
  simpa [or_assoc] using h
end Go.Proofs.YthijdjpipjbkbaaDoor.H
end
section
namespace Go.Proofs.YthijdjpipjbkbaaDoor.H
open Go.RowKit Go.Proofs.YthijdjpipjbkbaaDoorW.PrintWords Go.Proofs.YthijdjpipjbkbaaDoorW.PrintLast Go.Proofs.YthijdjpipjbkbaaDoorW.PrintMore
set_option linter.unusedVariables false
set_option linter.unusedSimpArgs false
theorem line_of (a b : List UInt8) (ha : ∀ c ∈ a, c ≠ 10) : (a ++ b).takeWhile (fun c => c != 10) = a ++ b.takeWhile (fun c => c != 10) :=
  List.takeWhile_append_of_pos (fun c hc => by simpa using ha c hc)
end Go.Proofs.YthijdjpipjbkbaaDoor.H
end
section
namespace Go.Proofs.YthijdjpipjbkbaaDoor.H
open Go.RowKit Go.Proofs.YthijdjpipjbkbaaDoorW.PrintWords Go.Proofs.YthijdjpipjbkbaaDoorW.PrintLast Go.Proofs.YthijdjpipjbkbaaDoorW.PrintMore
set_option linter.unusedVariables false
set_option linter.unusedSimpArgs false
def Stop (r : List UInt8) : Prop := ∀ c t, r = c :: t → wordB c.toNat = false
theorem run_app (x r : List UInt8) (hx : ∀ c ∈ x, wordB c.toNat = true) (hr : Stop r) : runLen (x ++ r) = x.length := by
  induction x with
  | nil =>
    cases r with
    | nil => rfl
    | cons c t => rw [List.nil_append, runLen_cons, if_neg (by rw [hr c t rfl]; simp)]; rfl
  | cons c x ih =>
    rw [List.cons_append, runLen_cons, if_pos (hx c List.mem_cons_self), ih fun y hy => hx y (List.mem_cons_of_mem _ hy)]; rfl
theorem run_split (l : List UInt8) : ∃ x r, l = x ++ r ∧ (∀ c ∈ x, wordB c.toNat = true) ∧ Stop r := by
  refine ⟨l.takeWhile fun c => wordB c.toNat, l.dropWhile fun c => wordB c.toNat, List.takeWhile_append_dropWhile.symm, ?_, ?_⟩
  · induction l with
    | nil => intro c h; simp at h
    | cons a l ih =>
      intro c h
      rw [List.takeWhile_cons] at h
      split at h
      · rename_i ha
        rcases List.mem_cons.1 h with rfl | h
        · exact ha
        · exact ih c h
      · simp at h
  · induction l with
    | nil => intro c t h; simp at h
    | cons a l ih =>
      intro c t h
      rw [List.dropWhile_cons] at h
      split at h
      · exact ih c t h
      · rename_i ha
        injection h with e _
        rw [← e]; simpa using ha
theorem take_app (x r : List UInt8) : (ba (x ++ r)).extract 0 x.length = ba x := by
  refine ba_ext ?_
  rw [ext_dt, ba_list, ba_list, List.drop_zero, Nat.sub_zero, List.take_left']
  rfl
theorem ba_len (l : List UInt8) : (ba l).size = l.length := ba_size l
theorem bt_cons (c : UInt8) (l : List UInt8) : bt (ba (c :: l)) 0 = (c.toNat : Int) := by
  have := bt_ba (l := c :: l) (i := 0) (c := c) (t := l) rfl
  exact this.2
theorem run_ba (l : List UInt8) : speclex_run.f (ba l) = some (runLen l : Int) := by unfold speclex_run.f; rw [ba_list]
theorem digB_word {c : Nat} (h : digB c = true) : wordB c = true := by unfold wordB; rw [show ((48 ≤ c && c ≤ 57) : Bool) = true from h, Bool.or_true]
theorem letB_word {c : Nat} (h : letB c = true) : wordB c = true := by unfold wordB; rw [h, Bool.true_or]
section
variable (r : List UInt8)
theorem one_name (c : UInt8) (l : List UInt8) (hc : letB c.toNat = true) (hl : ∀ x ∈ l, wordB x.toNat = true) (hr : Stop r) : Ends (fun k => speclex_one.f k (ba (c :: l ++ r)) (cls c.toNat : Int)) (1, ba (c :: l), 0, ((c :: l).length : Int), 0) := by
  have hrun : runLen (c :: l ++ r) = (c :: l).length := run_app (c :: l) r (fun x hx => by rcases List.mem_cons.1 hx with rfl | hx; exact letB_word hc; exact hl x hx) hr
  unfold speclex_one.f
  rw [cls_letter _ c.toNat_lt hc, run_ba, hrun]
  refine Ends.pos rfl (Ends.bind0 rfl (Ends.pos (by omega) (Ends.pos ?_ ((Ends.const _).val ?_))))
  · rw [ba_len, List.length_append]; omega
  · rw [Int.toNat_natCast, take_app]
theorem one_number (c : UInt8) (l : List UInt8) (hc : letB c.toNat = false) (hd : digB c.toNat = true) (hl : ∀ x ∈ l, wordB x.toNat = true) (hr : Stop r) (hs : (c :: l ++ r).length ≤ 1000000) :
    Ends (fun k => speclex_one.f k (ba (c :: l ++ r)) (cls c.toNat : Int)) (if l ≠ [] ∧ c.toNat = 48 then (0, (⟨#[]⟩ : ByteArray), 0, 0, 14) else if (c :: l).all (fun x => digB x.toNat) = true then (4, ba (c :: l), 0, ((c :: l).length : Int), 0) else (0, (⟨#[]⟩ : ByteArray), 0, 0, 14)) := by
  have hrun : runLen (c :: l ++ r) = (c :: l).length := run_app (c :: l) r (fun x hx => by rcases List.mem_cons.1 hx with rfl | hx; exact digB_word hd; exact hl x hx) hr
  have hz : (ba (c :: l ++ r)).size = (c :: l ++ r).length := ba_len _
  rw [List.length_append] at hz hs
  have htn := trim_nil (c :: l)
  have tl : ∀ {v : Int × ByteArray × Int × Int × Int}, (if (c :: l).all (fun x => digB x.toNat) = true then ((4 : Int), ba (c :: l), (0 : Int), ((c :: l).length : Int), (0 : Int)) else (0, (⟨#[]⟩ : ByteArray), 0, 0, 14)) = v → Ends (fun _ : Nat => (strings_Trim.f ((ba (c :: l ++ r)).extract 0 (((c :: l).length : Int)).toNat) (⟨#[48, 49, 50, 51, 52, 53, 54, 55, 56, 57]⟩ : ByteArray)).bind fun t => (if t.toList = ([] : List UInt8) then (some ((4 : Int), (ba (c :: l ++ r)).extract 0 (((c :: l).length : Int)).toNat, (0 : Int), ((c :: l).length : Int), (0 : Int))) else (some (0, (⟨#[]⟩ : ByteArray), 0, 0, 14)))) v := fun {v} hv => by
    rw [Int.toNat_natCast, take_app]
    have ht := trim_val (ba (c :: l)) (by rw [ba_len]; omega)
    rw [ba_list] at ht
    refine Ends.bind0 ht ?_
    cases hq : (c :: l).all (fun x => digB x.toNat) with
    | true => exact Ends.pos (htn.2 hq) ((Ends.const _).val (by rw [← hv, hq]; rfl))
    | false => exact Ends.neg (fun h => by rw [htn.1 h] at hq; cases hq) ((Ends.const _).val (by rw [← hv, hq]; rfl))
  have hb0 : bt (ba (c :: l ++ r)) 0 = (c.toNat : Int) := bt_cons c (l ++ r)
  have hlen : (c :: l).length = l.length + 1 := rfl
  unfold speclex_one.f
  rw [cls_digit _ c.toNat_lt hc hd, run_ba, hrun, hb0]
  refine Ends.neg (by decide) (Ends.pos rfl (Ends.bind0 rfl ?_))
  by_cases h1 : l = []
  · refine Ends.neg (by rw [h1]; simp) (Ends.pos (by omega) (Ends.pos (by omega) (tl (by rw [if_neg (show ¬ (l ≠ [] ∧ c.toNat = 48) from fun h => h.1 h1)]))))
  · have h2 : 1 ≤ l.length := by cases l with
      | nil => exact absurd rfl h1
      | cons a b => simp
    refine Ends.pos (by omega) (Ends.pos (by omega) ?_)
    by_cases h48 : c.toNat = 48
    · exact Ends.pos (by omega) ((Ends.const _).val (by rw [if_pos ⟨h1, h48⟩]))
    · exact Ends.neg (by omega) (Ends.pos (by omega) (Ends.pos (by omega) (tl (by rw [if_neg (show ¬ (l ≠ [] ∧ c.toNat = 48) from fun h => h48 h.2)]))))
theorem one_percent (l : List UInt8) (hl : ∀ x ∈ l, wordB x.toNat = true) (hr : Stop r) (hs : (37 :: l ++ r).length ≤ 1000000) :
    Ends (fun k => speclex_one.f k (ba (37 :: l ++ r)) (cls 37 : Int)) (if (wordsL.any fun w => w.toList == (ba (37 :: l)).toList) = true then (5, ba (37 :: l), 0, ((37 :: l : List UInt8).length : Int), 0) else (6, ba [37], 0, 1, 0)) := by
  have hrun : runLen (l ++ r) = l.length := run_app l r hl hr
  have hz : (ba (37 :: l ++ r)).size = (37 :: l ++ r).length := ba_len _
  rw [List.length_append, List.length_cons] at hz hs
  have hex : (ba (37 :: l ++ r)).extract 1 (ba (37 :: l ++ r)).size = ba (l ++ r) := by have := ba_drop (37 :: l ++ r) 1; simpa using this
  have HW1 := Aside0.mk (show wrap64 (1 + (l.length : Int)) = ((1 + l.length : Nat) : Int) from wsum 1 l.length (by omega))
  have hex2 : (ba (37 :: l ++ r)).extract 0 (1 + l.length) = ba (37 :: l) := by have := take_app (37 :: l) r; rw [show (37 :: l : List UInt8).length = 1 + l.length by simp; omega] at this; exact this
  have hex1 : (ba (37 :: l ++ r)).extract 0 1 = ba [37] := take_app [37] (l ++ r)
  unfold speclex_one.f
  refine Ends.neg (by decide) (Ends.neg (by decide) (Ends.neg (by decide) (Ends.neg (by decide) (Ends.pos (by rfl) (Ends.pos (by omega) ?_)))))
  rw [hex, run_ba, hrun]
  refine Ends.bind0 rfl ?_
  rw [HW1.out, Int.toNat_natCast, hex2]
  refine Ends.pos (by omega) (Ends.pos (by omega) (Ends.bind0 (a := wordsL.any fun w => w.toList == (ba (37 :: l)).toList) rfl ?_))
  by_cases hw : (wordsL.any fun w => w.toList == (ba (37 :: l)).toList) = true
  · refine (Ends.pos hw (Ends.const _)).val ?_
    rw [if_pos hw, show ((1 + l.length : Nat) : Int) = ((37 :: l : List UInt8).length : Int) by simp; omega]
  · refine (Ends.neg hw (Ends.pos (by decide) (Ends.const _))).val ?_
    rw [if_neg hw, hex1]
theorem one_sign (c : UInt8) (h : isSign c.toNat = true) : Ends (fun k => speclex_one.f k (ba (c :: r)) (cls c.toNat : Int)) (6, ba [c], 0, 1, 0) := by
  have hcs := sign_cases h
  have hk : cls c.toNat = 6 ∨ cls c.toNat = 8 := by
    rcases hcs with q | q | q | q | q | q | q | q | q | q | q <;> rw [q] <;> decide
  have hex1 : (ba (c :: r)).extract 0 1 = ba [c] := take_app [c] r
  unfold speclex_one.f
  refine Ends.neg (by omega) (Ends.neg (by omega) (Ends.neg (by omega) (Ends.neg (by omega) (Ends.neg (by omega) (Ends.neg (by omega) (Ends.pos (by decide) (Ends.pos (by rw [ba_len, List.length_cons]; omega) ((Ends.const _).val ?_))))))))
  rw [hex1]
theorem one_bad (c : UInt8) (h : cls c.toNat = 0) : Ends (fun k => speclex_one.f k (ba (c :: r)) (cls c.toNat : Int)) (0, ⟨#[]⟩, 0, 0, 12) := by
  unfold speclex_one.f
  exact Ends.neg (by omega) (Ends.neg (by omega) (Ends.neg (by omega) (Ends.neg (by omega) (Ends.neg (by omega) (Ends.pos (by omega) (Ends.const _))))))
end
def termL : Bool → List UInt8 → Option Nat
  | _, [] => none
  | b, c :: l => if c = 10 then none else if b then (termL false l).map (· + 1) else if c = 92 then (termL true l).map (· + 1) else if c = 47 then some 0 else (termL false l).map (· + 1)
theorem termL_lt : ∀ (l : List UInt8) (b : Bool) (m : Nat), termL b l = some m → m < l.length := by
  intro l
  induction l with
  | nil => intro b m h; cases b <;> cases h
  | cons c l ih =>
    intro b m h
    simp only [termL] at h
    split at h
    · cases h
    split at h
    · obtain ⟨x, hx, rfl⟩ := Option.map_eq_some_iff.1 h
      have := ih _ _ hx; simp only [List.length_cons]; omega
    split at h
    · obtain ⟨x, hx, rfl⟩ := Option.map_eq_some_iff.1 h
      have := ih _ _ hx; simp only [List.length_cons]; omega
    split at h
    · cases h; simp
    · obtain ⟨x, hx, rfl⟩ := Option.map_eq_some_iff.1 h
      have := ih _ _ hx; simp only [List.length_cons]; omega
theorem termL_take : ∀ (l : List UInt8) (b : Bool) (m : Nat), termL b l = some m → ∀ r, termL b (l.take m ++ 47 :: r) = some m := by
  intro l
  induction l with
  | nil => intro b m h; cases b <;> cases h
  | cons c l ih =>
    intro b m h r
    simp only [termL] at h
    split at h
    · cases h
    rename_i h10
    split at h
    · rename_i hb
      obtain ⟨x, hx, rfl⟩ := Option.map_eq_some_iff.1 h
      rw [List.take_succ_cons, List.cons_append, termL, if_neg h10, if_pos hb, ih _ _ hx]; rfl
    rename_i hb
    split at h
    · rename_i h92
      obtain ⟨x, hx, rfl⟩ := Option.map_eq_some_iff.1 h
      rw [List.take_succ_cons, List.cons_append, termL, if_neg h10, if_neg hb, if_pos h92, ih _ _ hx]; rfl
    rename_i h92
    split at h
    · cases h
      rw [List.take_zero, List.nil_append, termL, if_neg (by decide), if_neg hb, if_neg (by decide), if_pos rfl]
    · rename_i h47
      obtain ⟨x, hx, rfl⟩ := Option.map_eq_some_iff.1 h
      rw [List.take_succ_cons, List.cons_append, termL, if_neg h10, if_neg hb, if_neg h92, if_neg h47, ih _ _ hx]; rfl
theorem term_ends (L : List UInt8) (hL : L.length ≤ 1000000) : ∀ (l : List UInt8) (j : Nat) (b : Bool), L.drop j = l → Ends (fun k => speclex_term.l0 k (ba L) b (j : Int)) (match termL b l with | some m => ((j + m + 1 : Nat) : Int) | none => 0) := by
  intro l
  induction l with
  | nil =>
    intro j b h
    have := drop_nil h
    refine Ends.step (fun k => speclex_term.l0.eq_2 ..) (Ends.neg (by rw [ba_len]; omega) (Ends.step (fun k => speclex_term.j1.eq_2 ..) (Ends.neg (by simp) ((Ends.const _).val ?_))))
    cases b <;> rfl
  | cons c l ih =>
    intro j b h
    obtain ⟨hlt, hr, _⟩ := drop_cons h
    obtain ⟨_, hbt⟩ := bt_ba h
    have hn : Aside0 (wrap64 ((j : Int) + 1) = ((j + 1 : Nat) : Int)) := ⟨next_nat j (by omega)⟩
    have tr : ∀ b', (match (termL b' l).map (· + 1) with | some m => ((j + m + 1 : Nat) : Int) | none => 0) = (match termL b' l with | some m => ((j + 1 + m + 1 : Nat) : Int) | none => 0) := fun b' => by
      cases termL b' l with
      | none => rfl
      | some m => show ((j + (m + 1) + 1 : Nat) : Int) = ((j + 1 + m + 1 : Nat) : Int); congr 1; omega
    refine Ends.step (fun k => speclex_term.l0.eq_2 ..) (Ends.pos (by rw [ba_len]; omega) (Ends.pos (by omega) ?_))
    rw [hbt, bne10 c.toNat]
    simp only [termL]
    by_cases h10 : c = 10
    · rw [if_pos h10]
      subst h10
      exact Ends.step (fun k => speclex_term.j1.eq_2 ..) (Ends.neg (by decide) (Ends.const _))
    have hc10 : c.toNat ≠ 10 := fun q => h10 (UInt8.toNat_inj.1 q)
    rw [if_neg h10, show (c.toNat != 10 : Bool) = true by simpa using hc10]
    refine Ends.step (fun k => speclex_term.j1.eq_2 ..) (Ends.pos rfl ?_)
    cases b with
    | true =>
      rw [if_pos rfl, hn.out]
      exact Ends.pos rfl ((ih (j + 1) false hr).val (tr false).symm)
    | false =>
      rw [if_neg (by simp)]
      refine Ends.neg (by simp) (Ends.pos (by omega) (Ends.pos (by rw [ba_len]; omega) ?_))
      rw [hbt, hn.out]
      by_cases h92 : c = 92
      · rw [if_pos h92]
        exact Ends.pos (by rw [h92]; rfl) ((ih (j + 1) true hr).val (tr true).symm)
      have hc92 : c.toNat ≠ 92 := fun q => h92 (UInt8.toNat_inj.1 q)
      rw [if_neg h92]
      refine Ends.neg (by omega) ?_
      by_cases h47 : c = 47
      · rw [if_pos h47]
        exact Ends.pos (by rw [h47]; rfl) (Ends.const _)
      have hc47 : c.toNat ≠ 47 := fun q => h47 (UInt8.toNat_inj.1 q)
      rw [if_neg h47]
      exact Ends.neg (by omega) ((ih (j + 1) false hr).val (tr false).symm)
theorem one_regex (l : List UInt8) (hs : (47 :: l).length ≤ 1000000) : Ends (fun k => speclex_one.f k (ba (47 :: l)) (cls 47 : Int)) (match termL false l with | some m => (3, ba (l.take m), 0, ((m + 2 : Nat) : Int), 0) | none => (0, (⟨#[]⟩ : ByteArray), 0, 0, 13)) := by
  have ht := term_ends (47 :: l) hs l 1 false rfl
  unfold speclex_one.f
  refine Ends.neg (by decide) (Ends.neg (by decide) (Ends.neg (by decide) (Ends.pos (by rfl) (Ends.bind ht ?_))))
  cases hm : termL false l with
  | none => exact Ends.pos rfl (Ends.const _)
  | some m =>
    have hlt := termL_lt _ _ _ hm
    have hlen : (47 :: l : List UInt8).length = l.length + 1 := rfl
    have HW := Aside0.mk (show wrap64 (((1 + m + 1 : Nat) : Int) - 1) = ((m + 1 : Nat) : Int) from (congrArg wrap64 (by push_cast; omega)).trans (wrap_nat (m + 1) (by omega)))
    dsimp only
    rw [HW.out]
    refine Ends.neg (by omega) (Ends.pos (by omega) (Ends.pos (by rw [ba_len]; omega) ((Ends.const _).val ?_)))
    rw [Int.toNat_natCast, show (ba (47 :: l)).extract 1 (m + 1) = ba (l.take m) from ba_ext (by rw [ext_dt, ba_list, ba_list]; rfl), show ((1 + m + 1 : Nat) : Int) = ((m + 2 : Nat) : Int) by congr 1; omega]
end Go.Proofs.YthijdjpipjbkbaaDoor.H
end
section
namespace Go.Proofs.YthijdjpipjbkbaaDoor.H
open Go.RowKit Go.Proofs.YthijdjpipjbkbaaDoorW.PrintWords Go.Proofs.YthijdjpipjbkbaaDoorW.PrintLast Go.Proofs.YthijdjpipjbkbaaDoorW.PrintMore
set_option linter.unusedVariables false
set_option linter.unusedSimpArgs false
section
set_option maxRecDepth 100000
theorem cls7 (c : Nat) (h : c < 256) : cls c = 7 ↔ (c = 32 ∨ c = 9 ∨ c = 10 ∨ c = 13) := by
  have H : ∀ c : Fin 256, cls (c : Nat) = 7 ↔ ((c : Nat) = 32 ∨ (c : Nat) = 9 ∨ (c : Nat) = 10 ∨ (c : Nat) = 13) := by decide
  exact H ⟨c, h⟩
theorem cls8 (c : Nat) (h : c < 256) : cls c = 8 ↔ c = 35 := by
  have H : ∀ c : Fin 256, cls (c : Nat) = 8 ↔ (c : Nat) = 35 := by decide
  exact H ⟨c, h⟩
end
section
variable {s : ByteArray} (hs : s.size ≤ 100000) {i : Nat}
include hs
end
theorem nl_none {s : ByteArray} {i : Nat} (h : nlAt s i < 0) : ∀ q, i ≤ q → q < s.size → byteAt s q ≠ 10 := by
  intro q h1 h2 h3
  have hg := Lib.indexByte_ge (s.extract i s.size).data.toList 10
  have e : Lib.indexByte (s.extract i s.size).data.toList 10 = -1 := by unfold nlAt at h; omega
  have := Lib.indexByte_none e (q - i)
  rw [ext_list, List.getElem?_drop, show i + (q - i) = q by omega] at this
  obtain ⟨c, hc, hb⟩ := byte_cons s q h2
  apply this
  have e2 : s.data.toList[q]? = some c := by
    have := congrArg (·[0]?) hc
    simpa [List.getElem?_drop] using this
  rw [e2]
  have : c.toNat = 10 := by omega
  exact congrArg some (UInt8.toNat_inj.1 this)
theorem nl_some {s : ByteArray} {i : Nat} (hi : i ≤ s.size) (h : 0 ≤ nlAt s i) : ∃ j, nlAt s i = ((j - i : Nat) : Int) ∧ i ≤ j ∧ j < s.size ∧ byteAt s j = 10 ∧ ∀ q, i ≤ q → q < j → byteAt s q ≠ 10 := by
  obtain ⟨o, ho⟩ := Int.eq_ofNat_of_zero_le h
  have hh := Lib.indexByte_some (show Lib.indexByte (s.extract i s.size).data.toList 10 = (o : Int) from ho)
  obtain ⟨h1, h2⟩ := hh
  rw [ext_list, List.getElem?_drop] at h1
  have hlt : i + o < s.size := by
    rcases Nat.lt_or_ge (i + o) s.size with q | q
    · exact q
    · rw [List.getElem?_eq_none (by rw [Array.length_toList]; exact q)] at h1; cases h1
  have at' : ∀ q, q < s.size → ∀ c, s.data.toList[q]? = some c → byteAt s q = c.toNat := fun q hq c hc => by
    obtain ⟨d, hd, hb⟩ := byte_cons s q hq
    have e := congrArg (·[0]?) hd
    simp only [List.getElem?_drop, Nat.add_zero, List.getElem?_cons_zero] at e
    rw [hc] at e
    rw [Option.some.inj e]; exact hb.symm
  refine ⟨i + o, by rw [ho]; congr 1; omega, by omega, hlt, at' _ hlt _ h1, fun q hq1 hq2 hq3 => ?_⟩
  obtain ⟨d, hd, hb⟩ := byte_cons s q (by omega)
  have e := congrArg (·[0]?) hd
  simp only [List.getElem?_drop, Nat.add_zero, List.getElem?_cons_zero] at e
  refine h2 (q - i) (by omega) ?_
  rw [ext_list, List.getElem?_drop, show i + (q - i) = q by omega, e]
  exact congrArg some (UInt8.toNat_inj.1 (by show d.toNat = 10; omega))
end Go.Proofs.YthijdjpipjbkbaaDoor.H
end
section
namespace Go.Proofs.YthijdjpipjbkbaaDoor.H
open Go.RowKit Go.Proofs.YthijdjpipjbkbaaDoorW.PrintWords Go.Proofs.YthijdjpipjbkbaaDoorW.PrintLast Go.Proofs.YthijdjpipjbkbaaDoorW.PrintMore
set_option linter.unusedVariables false
set_option linter.unusedSimpArgs false
theorem word37 : (wordsL.any fun w => w.toList == (ba [37]).toList) = false := by
  simp only [Lib.toList_data]
  decide
inductive GoodTok : Int → ByteArray → Prop
  | name (c : UInt8) (l : List UInt8) (hc : letB c.toNat = true) (hl : ∀ x ∈ l, wordB x.toNat = true) (hs : l.length ≤ 4000) : GoodTok 1 (ba (c :: l))
  | number (c : UInt8) (l : List UInt8) (hc : letB c.toNat = false) (h : (c :: l).all (fun x => digB x.toNat) = true) (h0 : ¬ (l ≠ [] ∧ c.toNat = 48)) (hs : l.length ≤ 4000) : GoodTok 4 (ba (c :: l))
  | keyword (l : List UInt8) (hl : ∀ x ∈ l, wordB x.toNat = true) (hw : (wordsL.any fun w => w.toList == (ba (37 :: l)).toList) = true) (hs : l.length ≤ 4000) : GoodTok 5 (ba (37 :: l))
  | sign (c : UInt8) (h : isSign c.toNat = true) : GoodTok 6 (ba [c])
  | percent : GoodTok 6 (ba [37])
  | regex (l : List UInt8) (h : ∀ r, termL false (l ++ 47 :: r) = some l.length) (hs : l.length ≤ 4000) : GoodTok 3 (ba l)
  | literal (t : ByteArray) (h : t.size ≤ 6000) : GoodTok 2 t
def isHash (k : Int) (t : ByteArray) : Prop := k = 6 ∧ t = ba [35]
theorem GoodTok.size {k : Int} {t : ByteArray} (h : GoodTok k t) : t.size ≤ 6001 := by
  cases h <;> (try rw [ba_len]) <;> (try simp only [List.length_cons, List.length_nil]) <;> omega
end Go.Proofs.YthijdjpipjbkbaaDoor.H
end
section
namespace Go.Proofs.YthijdjpipjbkbaaDoor.H
open Go.RowKit Go.Proofs.YthijdjpipjbkbaaDoorW.PrintWords Go.Proofs.YthijdjpipjbkbaaDoorW.PrintLast Go.Proofs.YthijdjpipjbkbaaDoorW.PrintMore
set_option linter.unusedVariables false
set_option linter.unusedSimpArgs false
def SameTo (n : Nat) (a b : ByteArray) : Prop := n ≤ a.size ∧ n ≤ b.size ∧ ∀ i : Nat, i < n → bt a (i : Int) = bt b (i : Int)
theorem braced_j2_loc {k : Nat} {a b : ByteArray} (ha : a.size ≤ 1000000) {lo x : Int} {i : Nat} {y m : Int} (h : text_braced.j2 k a lo x (i : Int) = some (y, m)) (hm : 1 ≤ m) (hs : SameTo m.toNat a b) : (i : Int) < m ∧ text_braced.j2 k b lo x (i : Int) = some (y, m) := by
  cases k with
  | zero => simp [text_braced.j2] at h
  | succ k =>
    simp only [text_braced.j2] at h ⊢
    split at h
    · cases h; omega
    split at h
    case isFalse => cases h
    split at h
    case isFalse => cases h
    rename_i hi
    split at h
    case isFalse => cases h; omega
    rename_i h125
    split at h
    · cases h; omega
    · rename_i hlo
      have hw : wrap64 ((i : Int) + 1) = ((i + 1 : Nat) : Int) := next_nat i (by omega)
      rw [hw] at h
      cases h
      obtain ⟨s1, s2, s3⟩ := hs
      rw [Int.toNat_natCast] at s1 s2 s3
      refine ⟨by omega, ?_⟩
      rw [if_neg (by omega), if_pos (by omega), if_pos (by omega), if_pos (by rw [← s3 i (by omega)]; exact h125), if_neg hlo, hw]
theorem braced_l0_loc {a b : ByteArray} (ha : a.size ≤ 1000000) {lo hi : Int} {y m : Int} (hm : 1 ≤ m) (hs : SameTo m.toNat a b) : ∀ (k : Nat) (x : Int) (i : Nat),
    (text_braced.l0 k a lo hi x (i : Int) = some (y, m) → (i : Int) < m ∧ text_braced.l0 k b lo hi x (i : Int) = some (y, m)) ∧
    (∀ c, text_braced.j1 k a lo hi x (i : Int) c = some (y, m) → (i : Int) < m ∧ text_braced.j1 k b lo hi x (i : Int) c = some (y, m)) := by
  intro k
  induction k with
  | zero => intro x i; exact ⟨fun h => by simp [text_braced.l0] at h, fun c h => by simp [text_braced.j1] at h⟩
  | succ k ih =>
    intro x i
    refine ⟨fun h => ?_, fun c h => ?_⟩
    · simp only [text_braced.l0] at h ⊢
      split at h
      · obtain ⟨g1, g2⟩ := (ih x i).2 _ h
        have := hs.2.1
        exact ⟨g1, by rw [if_pos (by omega)]; exact g2⟩
      · rename_i hlt
        cases k with
        | zero => simp [text_braced.j1] at h
        | succ k2 =>
          simp only [text_braced.j1] at h
          rw [if_neg (by simp)] at h
          obtain ⟨g1, _⟩ := braced_j2_loc ha h hm hs
          have := hs.1
          omega
    · simp only [text_braced.j1] at h ⊢
      split at h
      · rename_i hc
        split at h
        case isFalse => cases h
        split at h
        case isFalse => cases h
        rename_i h0 hlt
        obtain ⟨t, ht, h⟩ := Option.bind_eq_some_iff.1 h
        have fin : (i : Int) < m → bt b (i : Int) = bt a (i : Int) ∧ (i : Int) < (b.size : Int) := fun g => ⟨(hs.2.2 i (by omega)).symm, by have := hs.2.1; omega⟩
        split at h
        · rename_i hneg
          obtain ⟨g1, g2⟩ := braced_j2_loc ha h hm hs
          obtain ⟨f1, f2⟩ := fin g1
          refine ⟨g1, ?_⟩
          rw [if_pos hc, if_pos h0, if_pos f2, f1, ht, Option.bind_some, if_pos hneg]
          exact g2
        · rename_i hneg
          rw [next_nat i (by omega)] at h
          obtain ⟨g1, g2⟩ := (ih _ (i + 1)).1 h
          obtain ⟨f1, f2⟩ := fin (by omega)
          refine ⟨by omega, ?_⟩
          rw [if_pos hc, if_pos h0, if_pos f2, f1, ht, Option.bind_some, if_neg hneg, next_nat i (by omega)]
          exact g2
      · rename_i hc
        obtain ⟨g1, g2⟩ := braced_j2_loc ha h hm hs
        exact ⟨g1, by rw [if_neg hc]; exact g2⟩
theorem sameTo_app (u r r2 : List UInt8) (n : Nat) (hn : n ≤ u.length) : SameTo n (ba (u ++ r)) (ba (u ++ r2)) := by
  refine ⟨by rw [ba_len, List.length_append]; omega, by rw [ba_len, List.length_append]; omega, fun i hi => ?_⟩
  have hu : i < u.length := by omega
  have h1 : (u ++ r).drop i = u[i] :: (u.drop (i + 1) ++ r) := by rw [List.drop_append_of_le_length (by omega), List.drop_eq_getElem_cons hu]; rfl
  have h2 : (u ++ r2).drop i = u[i] :: (u.drop (i + 1) ++ r2) := by rw [List.drop_append_of_le_length (by omega), List.drop_eq_getElem_cons hu]; rfl
  rw [(bt_ba h1).2, (bt_ba h2).2]
theorem decode_cut (T R : List UInt8) (hR : ∀ c r, R = c :: r → c.toNat < 128) (p : Nat) (hp : p < T.length) : Utf8.decode (ba (T ++ R)) p = Utf8.decode (ba T) p := by
  rw [Lib.decode_at, Lib.decode_at]
  simp only [get_ba, ba_size, List.length_append]
  have inn : ∀ i, i < T.length → (T ++ R).getD i 0 = T.getD i 0 := fun i hi => by
    simp [List.getD_eq_getElem?_getD, List.getElem?_append_left hi]
  have out : (T.length < (T ++ R).length → ((T ++ R).getD T.length 0).toNat / 64 ≠ 2) := fun h => by
    cases R with
    | nil => simp at h
    | cons c r =>
      have := hR c r rfl
      simp [List.getD_eq_getElem?_getD]
      omega
  have key : ∀ k, p + k ≤ T.length → ((k < T.length - p ∧ (T.getD (p + k) 0).toNat / 64 = 2) ↔ (k < T.length + R.length - p ∧ ((T ++ R).getD (p + k) 0).toNat / 64 = 2)) := fun k hk => by
    rcases Nat.lt_or_ge (p + k) T.length with q | q
    · rw [inn _ q]; exact ⟨fun h => ⟨by omega, h.2⟩, fun h => ⟨by omega, h.2⟩⟩
    · have e : p + k = T.length := by omega
      rw [e]
      exact ⟨fun h => by omega, fun h => absurd h.2 (out (by simp; omega))⟩
  have e0 := inn p hp
  rw [e0]
  symm
  refine decodeN_line _ _ _ _ _ _ _ _ _ (key 1 (by omega)) (fun h => by rw [inn _ (by omega)]) (fun h => key 2 (by omega)) (fun h => by rw [inn _ (by omega)]) (fun h => key 3 (by omega)) (fun h => by rw [inn _ (by omega)])
theorem braced_j2_le {k : Nat} {a : ByteArray} (ha : a.size ≤ 1000000) {lo x : Int} {i : Nat} {y m : Int} (h : text_braced.j2 k a lo x (i : Int) = some (y, m)) : m ≤ (a.size : Int) := by
  cases k with
  | zero => simp [text_braced.j2] at h
  | succ k =>
    simp only [text_braced.j2] at h
    split at h
    · cases h; omega
    split at h
    case isFalse => cases h
    split at h
    case isFalse => cases h
    rename_i hi
    split at h
    case isFalse => cases h; omega
    split at h
    · cases h; omega
    · rw [next_nat i (by omega)] at h
      cases h
      omega
theorem braced_l0_le {a : ByteArray} (ha : a.size ≤ 1000000) {lo hi : Int} {y m : Int} : ∀ (k : Nat) (x : Int) (i : Nat),
    (text_braced.l0 k a lo hi x (i : Int) = some (y, m) → m ≤ (a.size : Int)) ∧
    (∀ c, text_braced.j1 k a lo hi x (i : Int) c = some (y, m) → m ≤ (a.size : Int)) := by
  intro k
  induction k with
  | zero => intro x i; exact ⟨fun h => by simp [text_braced.l0] at h, fun c h => by simp [text_braced.j1] at h⟩
  | succ k ih =>
    intro x i
    refine ⟨fun h => ?_, fun c h => ?_⟩
    · simp only [text_braced.l0] at h
      split at h
      · exact (ih x i).2 _ h
      · exact (ih x i).2 _ h
    · simp only [text_braced.j1] at h
      split at h
      · split at h
        case isFalse => cases h
        split at h
        case isFalse => cases h
        obtain ⟨t, ht, h⟩ := Option.bind_eq_some_iff.1 h
        split at h
        · exact braced_j2_le ha h
        · rw [next_nat i (by omega)] at h
          exact (ih _ (i + 1)).1 h
      · exact braced_j2_le ha h
theorem not_nil {a : ByteArray} (h : 0 < a.size) : ¬ a.toList = ([] : List UInt8) := fun q => by
  have h2 : a.data.toList.length = a.size := Array.length_toList
  rw [Lib.toList_data] at q
  rw [q] at h2
  simp at h2
  omega
theorem braced_loc {k : Nat} {a b : ByteArray} (ha : a.size ≤ 1000000) {lo hi : Int} {y m : Int} (h : text_braced.f k a lo hi = some (y, m)) (hm : 1 ≤ m) (hs : SameTo m.toNat a b) : m ≤ (a.size : Int) ∧ text_braced.f k b lo hi = some (y, m) := by
  have hs1 := hs.1
  have hs2 := hs.2.1
  have e0 : bt a 0 = bt b 0 := hs.2.2 0 (by omega)
  unfold text_braced.f at h ⊢
  rw [if_neg (not_nil (by omega)), if_pos (by omega)] at h
  rw [if_neg (not_nil (by omega)), if_pos (by omega)]
  split at h
  · rename_i h123
    rw [if_pos (by rw [← e0]; exact h123)]
    exact ⟨(braced_l0_le ha k 0 1).1 h, ((braced_l0_loc ha hm hs k 0 1).1 h).2⟩
  · cases h; omega
theorem bt_ext1 (s : ByteArray) (i : Nat) (h : 1 + i < s.size) : bt (s.extract 1 s.size) (i : Int) = bt s ((1 + i : Nat) : Int) := by
  rw [(byteAt_bt _ i).1, byte_ext s 1 i h, (byteAt_bt s (1 + i)).1]
theorem sameTo_ext {n : Nat} {a b : ByteArray} (h : SameTo (1 + n) a b) : SameTo n (a.extract 1 a.size) (b.extract 1 b.size) := by
  obtain ⟨h1, h2, h3⟩ := h
  refine ⟨by rw [ext_size a 1 (by omega)]; omega, by rw [ext_size b 1 (by omega)]; omega, fun i hi => ?_⟩
  rw [bt_ext1 a i (by omega), bt_ext1 b i (by omega)]
  exact h3 (1 + i) (by omega)
theorem escj0_loc {k : Nat} {a b : ByteArray} (ha : a.size ≤ 1000000) {lo hi : Int} {v : ByteArray} {m : Int} (h : text_escape.j0 k a lo hi = some (v, m)) (hm : 1 ≤ m) (hs : SameTo m.toNat a b) : text_escape.j0 k b lo hi = some (v, m) := by
  have hs1 := hs.1
  have hs2 := hs.2.1
  cases k with
  | zero => simp [text_escape.j0] at h
  | succ k =>
    simp only [text_escape.j0] at h ⊢
    split at h
    case isFalse => cases h
    obtain ⟨⟨y, m'⟩, hx, h⟩ := Option.bind_eq_some_iff.1 h
    rw [if_pos (by omega)]
    dsimp only at h
    split at h
    · cases h; omega
    rename_i hm'
    have hle0 : m' ≤ ((a.extract 1 a.size).size : Int) := by
      unfold text_braced.f at hx
      split at hx
      · cases hx; omega
      split at hx
      case isFalse => cases hx
      split at hx
      · exact (braced_l0_le (by rw [ext_size a 1 (by omega)]; omega) k 0 1).1 hx
      · cases hx; omega
    rw [ext_size a 1 (by omega)] at hle0
    have hw := Aside0.mk (show wrap64 (1 + m') = 1 + m' from wrap_id (by omega) (by omega))
    rw [hw.out] at h
    have key : m = 1 + m' := by
      split at h
      · cases h; rfl
      · obtain ⟨z, _, h⟩ := Option.bind_eq_some_iff.1 h
        split at h
        · cases h; rfl
        · cases h; omega
    have e : m.toNat = 1 + m'.toNat := by omega
    rw [e] at hs
    obtain ⟨_, hb⟩ := braced_loc (by rw [ext_size a 1 (by omega)]; omega) hx (by omega) (sameTo_ext hs)
    rw [hb, Option.bind_some]
    dsimp only
    rw [if_neg hm', hw.out]
    exact h
theorem escape_loc {k : Nat} {a b : ByteArray} (ha : a.size ≤ 1000000) {v : ByteArray} {m : Int} (h : text_escape.f k a = some (v, m)) (hm : 1 ≤ m) (hs : SameTo m.toNat a b) : text_escape.f k b = some (v, m) := by
  have hs1 := hs.1
  have hs2 := hs.2.1
  have e0 : bt a 0 = bt b 0 := hs.2.2 0 (by omega)
  unfold text_escape.f at h ⊢
  rw [if_neg (not_nil (by omega)), if_pos (by omega)] at h
  rw [if_neg (not_nil (by omega)), if_pos (by omega)]
  rw [e0] at h
  obtain ⟨x, hx, h⟩ := Option.bind_eq_some_iff.1 h
  rw [hx, Option.bind_some]
  by_cases hge : x ≥ 0
  · rw [if_pos hge] at h ⊢; exact h
  rw [if_neg hge] at h ⊢
  by_cases h120 : bt b 0 = 120
  · rw [if_pos h120] at h ⊢; exact escj0_loc ha h hm hs
  rw [if_neg h120] at h ⊢
  by_cases h117 : bt b 0 = 117
  · rw [if_pos h117] at h ⊢; exact escj0_loc ha h hm hs
  rw [if_neg h117] at h ⊢
  exact h
theorem unq_last : ∀ (k : Nat) (line : ByteArray) (acc : List UInt8) (p : Nat) (t : ByteArray) (n : Int), text_Unquote.l0 k line acc p = some (t, n, 0) → ∃ T R, line.data.toList = T ++ 34 :: R ∧ n = ((T.length + 1 : Nat) : Int) := by
  intro k
  induction k with
  | zero => intro line acc p t n h; simp [text_Unquote.l0] at h
  | succ k ih =>
    intro line acc p t n h
    simp only [text_Unquote.l0] at h
    split at h
    case isFalse => simp at h
    rename_i hp
    split at h
    · rename_i h34
      simp only [Option.some.injEq, Prod.mk.injEq] at h
      obtain ⟨_, rfl, _⟩ := h
      obtain ⟨h1, _⟩ := rune_ascii hp (by omega)
      have hd := byte_drop line p hp
      have hc : line[p]'hp = 34 := byte_eq (n := 34) (by omega) (by rw [h1] at h34; exact h34)
      rw [hc] at hd
      have hl : line.data.toList.length = line.size := Array.length_toList
      refine ⟨line.data.toList.take p, line.data.toList.drop (p + 1), ?_, ?_⟩
      · rw [← hd, List.take_append_drop]
      · rw [List.length_take]; omega
    split at h
    · obtain ⟨x, _, h⟩ := Option.bind_eq_some_iff.1 h
      split at h
      · simp at h
      split at h
      · simp at h
      split at h
      · split at h
        · exact ih _ _ _ _ _ h
        · cases h
      · cases h
    split at h
    · simp at h
    split at h
    · exact ih _ _ _ _ _ h
    · cases h
theorem decode_in (T x : List UInt8) (p : Nat) (hp : p ≤ T.length) (y : List UInt8) : Utf8.decode (ba (T ++ 34 :: x)) p = Utf8.decode (ba (T ++ 34 :: y)) p := by
  rcases Nat.lt_or_ge p T.length with q | q
  · rw [decode_cut T (34 :: x) (fun c r h => by cases h; decide) p q, decode_cut T (34 :: y) (fun c r h => by cases h; decide) p q]
  · obtain rfl : p = T.length := by omega
    rw [(dec_ascii (L := T ++ 34 :: x) (p := T.length) (c := 34) (t := x) (List.drop_left' rfl) (by decide)).2, (dec_ascii (L := T ++ 34 :: y) (p := T.length) (c := 34) (t := y) (List.drop_left' rfl) (by decide)).2]
theorem unq_loc (T x y : List UInt8) (hx : (T ++ 34 :: x).length ≤ 1000000) : ∀ (k : Nat) (acc : List UInt8) (p : Nat) (t : ByteArray) (n : Int), n = ((T.length + 1 : Nat) : Int) → text_Unquote.l0 k (ba (T ++ 34 :: x)) acc p = some (t, n, 0) → text_Unquote.l0 k (ba (T ++ 34 :: y)) acc p = some (t, n, 0) := by
  intro k
  induction k with
  | zero => intro acc p t n hn h; simp [text_Unquote.l0] at h
  | succ k ih =>
    intro acc p t n hn h
    have hb := unq_bound _ _ _ _ _ _ h
    have hp : p ≤ T.length := by omega
    have hd := decode_in T x p hp y
    have s1 : p < (ba (T ++ 34 :: x)).size := by rw [ba_len, List.length_append, List.length_cons]; omega
    have s2 : p < (ba (T ++ 34 :: y)).size := by rw [ba_len, List.length_append, List.length_cons]; omega
    simp only [text_Unquote.l0] at h ⊢
    rw [if_pos s1, hd] at h
    rw [if_pos s2]
    by_cases c1 : (Utf8.decode (ba (T ++ 34 :: y)) p).1 = 34
    · rw [if_pos c1] at h ⊢; exact h
    rw [if_neg c1] at h ⊢
    by_cases c2 : (Utf8.decode (ba (T ++ 34 :: y)) p).1 = 92
    · rw [if_pos c2] at h ⊢
      obtain ⟨⟨v, m⟩, he, h⟩ := Option.bind_eq_some_iff.1 h
      dsimp only at h
      split at h
      · simp at h
      rename_i m1
      split at h
      · simp at h
      rename_i m2
      split at h
      case isFalse => cases h
      rename_i m3
      split at h
      case isFalse => cases h
      rename_i m4
      have hb2 := unq_bound _ _ _ _ _ _ h
      have e1 : ∀ z : List UInt8, (T ++ 34 :: z).drop (p + 1) = ((T ++ [34]).drop (p + 1)) ++ z := fun z => by
        rw [show T ++ 34 :: z = (T ++ [34]) ++ z by simp, List.drop_append_of_le_length (by simp; omega)]
      rw [ba_drop, e1] at he
      have hs := sameTo_app ((T ++ [34]).drop (p + 1)) x y m.toNat (by simp; omega)
      rw [List.length_append, List.length_cons] at hx
      have he2 := escape_loc (by rw [ba_len, List.length_append, List.length_drop, List.length_append, List.length_singleton]; omega) he (by omega) hs
      rw [ba_drop, e1, he2, Option.bind_some]
      dsimp only
      rw [if_neg m1, if_neg m2, if_pos m3, if_pos m4]
      exact ih _ _ _ _ hn h
    rw [if_neg c2] at h ⊢
    by_cases c3 : (Utf8.decode (ba (T ++ 34 :: y)) p).1 < 32 ∨ (Utf8.decode (ba (T ++ 34 :: y)) p).1 = 127 ∨ ((Utf8.decode (ba (T ++ 34 :: y)) p).1 = 65533 ∧ (Utf8.decode (ba (T ++ 34 :: y)) p).2 = 1)
    · rw [if_pos c3] at h; simp at h
    rw [if_neg c3] at h ⊢
    split at h
    case isFalse => cases h
    rename_i m5
    rw [if_pos m5]
    exact ih _ _ _ _ hn h
theorem tw_all (q : UInt8 → Bool) : ∀ (l : List UInt8) (c : UInt8), c ∈ l.takeWhile q → q c = true := by
  intro l
  induction l with
  | nil => intro c h; simp at h
  | cons a l ih =>
    intro c h
    rw [List.takeWhile_cons] at h
    split at h
    · rename_i ha
      rcases List.mem_cons.1 h with rfl | h
      · exact ha
      · exact ih c h
    · simp at h
theorem unquote_loc (s : List UInt8) (hs : s.length ≤ 100000) {k : Nat} {t : ByteArray} {n : Int} (h : text_Unquote.f k (ba s) = some (t, n, 0)) : 1 ≤ n ∧ n ≤ (s.length : Int) ∧ ∀ r : List UInt8, r.length ≤ 100000 → text_Unquote.f k (ba (s.take n.toNat ++ r)) = some (t, n, 0) := by
  unfold text_Unquote.f at h
  split at h
  case isFalse => cases h
  split at h
  case isFalse => simp at h
  rename_i hpre
  rw [lineOf_eq, ba_list] at h
  rw [ba_list] at hpre
  have hb := unq_bound _ _ _ _ _ _ h
  obtain ⟨T, R, hl, hn⟩ := unq_last _ _ _ _ _ _ h
  rw [ba_list] at hl
  rw [hl] at h hb
  rw [ba_len] at hb
  have hsplit : s = (T ++ 34 :: R) ++ s.dropWhile (fun c => c != 10) := by rw [← hl, List.takeWhile_append_dropWhile]
  have hlen : s.length = T.length + 1 + R.length + (s.dropWhile (fun c => c != 10)).length := by
    have := congrArg List.length hsplit
    rw [List.length_append, List.length_append, List.length_cons] at this
    omega
  have htake : s.take n.toNat = T ++ [34] := by
    rw [hsplit, show (T ++ 34 :: R) ++ s.dropWhile (fun c => c != 10) = (T ++ [34]) ++ (R ++ s.dropWhile (fun c => c != 10)) by simp]
    exact List.take_left' (by rw [List.length_append, List.length_singleton]; omega)
  refine ⟨by omega, by omega, fun r hr => ?_⟩
  rw [htake]
  have hT : ∀ c ∈ T ++ [34], c ≠ 10 := fun c hc => by
    have : c ∈ s.takeWhile (fun c => c != 10) := by
      rw [hl]
      rcases List.mem_append.1 hc with q | q
      · exact List.mem_append_left _ q
      · exact List.mem_append_right _ (by rw [List.mem_singleton.1 q]; exact List.mem_cons_self)
    have := tw_all _ s c this
    simpa using this
  unfold text_Unquote.f
  rw [if_pos (by rw [ba_len, List.length_append, List.length_append, List.length_singleton]; omega)]
  have hpre2 : Lib.hasPrefix (ba (T ++ [34] ++ r)).data.toList [34] = true := by
    rw [ba_list]
    rw [hsplit] at hpre
    cases T with
    | nil => rfl
    | cons c T => exact hpre
  rw [if_pos hpre2, lineOf_eq, ba_list, line_of _ _ hT, show T ++ [34] ++ r.takeWhile (fun c => c != 10) = T ++ 34 :: r.takeWhile (fun c => c != 10) by simp]
  rw [List.length_append, List.length_cons] at hb
  exact unq_loc T R _ (by rw [List.length_append, List.length_cons]; omega) k [] 1 t n hn h
end Go.Proofs.YthijdjpipjbkbaaDoor.H
end
section
namespace Go.Proofs.YthijdjpipjbkbaaDoor.H
open Go.RowKit Go.Proofs.YthijdjpipjbkbaaDoorW.PrintWords Go.Proofs.YthijdjpipjbkbaaDoorW.PrintLast Go.Proofs.YthijdjpipjbkbaaDoorW.PrintMore
set_option linter.unusedVariables false
set_option linter.unusedSimpArgs false
def wrun (l : List UInt8) : List UInt8 := l.takeWhile fun c => wordB c.toNat
theorem wrun_len (l : List UInt8) : runLen l = (wrun l).length := rfl
theorem wrun_app (x r : List UInt8) (hx : ∀ c ∈ x, wordB c.toNat = true) (hr : Stop r) : wrun (x ++ r) = x := by
  unfold wrun
  rw [List.takeWhile_append_of_pos hx]
  cases r with
  | nil => simp
  | cons c t => rw [List.takeWhile_cons, if_neg (by rw [hr c t rfl]; simp), List.append_nil]
theorem stop_wrun {r : List UInt8} (h : wrun r = []) : Stop r := by
  intro c t e
  subst e
  unfold wrun at h
  rw [List.takeWhile_cons] at h
  split at h
  · cases h
  · rename_i q; simpa using q
theorem wrun_stop {r : List UInt8} (h : Stop r) : wrun r = [] := wrun_app [] r (fun c h => by cases h) h
def TokAt (c : UInt8) (v r : List UInt8) (k : Int) (t : ByteArray) : Prop :=
  (isHash k t → c = 35) ∧ (c = 35 → isHash k t ∧ v = []) ∧ (wordB c.toNat = true → (∀ y ∈ c :: v, wordB y.toNat = true) ∧ Stop r) ∧
  ∀ r2 : List UInt8, r2.length ≤ 1000 → (wrun r2 = [] ∨ wrun r2 = wrun r) → Ends (fun f => speclex_one.f f (ba (c :: v ++ r2)) (cls c.toNat : Int)) (k, t, 0, ((c :: v).length : Int), 0)
theorem word_split {c : Nat} (h1 : letB c = false) (h2 : digB c = false) : wordB c = false := by
  unfold wordB
  rw [h1, Bool.false_or]
  exact h2
theorem hash37 {k : Int} (h : isHash k (ba [37])) : False := by
  have := congrArg (fun b : ByteArray => b.data.toList) h.2
  simp only [ba_list] at this
  injection this with e _
  exact absurd e (by decide)
theorem tok_loc (c : UInt8) (l : List UInt8) (hs : (c :: l).length ≤ 1000) (h7 : cls c.toNat ≠ 7) : ∃ (k : Int) (t : ByteArray) (n e : Int), Ends (fun f => speclex_one.f f (ba (c :: l)) (cls c.toNat : Int)) (k, t, 0, n, e) ∧
    (e = 0 → ∃ v r : List UInt8, l = v ++ r ∧ n = ((c :: v).length : Int) ∧ TokAt c v r k t) := by
  have hb2 := c.toNat_lt
  have hlen : (c :: l).length = l.length + 1 := rfl
  obtain ⟨x, r, hxr, hx, hr⟩ := run_split l
  have hlx : l.length = x.length + r.length := by rw [hxr, List.length_append]
  have hwr := wrun_stop hr
  have stops : ∀ r2, (wrun r2 = [] ∨ wrun r2 = wrun r) → Stop r2 := fun r2 h => stop_wrun (by rcases h with h | h; exact h; rw [h, hwr])
  cases hl : letB c.toNat with
  | true =>
    have n35 : c ≠ 35 := fun q => by rw [q] at hl; exact absurd hl (by decide)
    refine ⟨1, ba (c :: x), ((c :: x).length : Int), 0, by rw [hxr]; exact one_name r c x hl hx hr, fun _ => ⟨x, r, hxr, rfl, (fun h => absurd h.1 (by decide)), (fun q => absurd q n35), (fun _ => ?_), fun r2 _ h2 => one_name r2 c x hl hx (stops r2 h2)⟩⟩
    exact ⟨fun y hy => by rcases List.mem_cons.1 hy with rfl | hy; exact letB_word hl; exact hx y hy, hr⟩
  | false =>
  cases hd : digB c.toNat with
  | true =>
    have n35 : c ≠ 35 := fun q => by rw [q] at hd; exact absurd hd (by decide)
    have h1 := one_number r c x hl hd hx hr (by rw [List.length_append, List.length_cons]; omega)
    by_cases hz : x ≠ [] ∧ c.toNat = 48
    · rw [if_pos hz] at h1
      exact ⟨0, ⟨#[]⟩, 0, 14, by rw [hxr]; exact h1, fun h => by cases h⟩
    · rw [if_neg hz] at h1
      by_cases ha : (c :: x).all (fun x => digB x.toNat) = true
      · rw [if_pos ha] at h1
        refine ⟨4, ba (c :: x), ((c :: x).length : Int), 0, by rw [hxr]; exact h1, fun _ => ⟨x, r, hxr, rfl, (fun h => absurd h.1 (by decide)), (fun q => absurd q n35), (fun _ => ?_), fun r2 hl2 h2 => ?_⟩⟩
        · exact ⟨fun y hy => by rcases List.mem_cons.1 hy with rfl | hy; exact digB_word hd; exact hx y hy, hr⟩
        · have h3 := one_number r2 c x hl hd hx (stops r2 h2) (by rw [List.length_append, List.length_cons]; omega)
          rw [if_neg hz, if_pos ha] at h3
          exact h3
      · rw [if_neg ha] at h1
        exact ⟨0, ⟨#[]⟩, 0, 14, by rw [hxr]; exact h1, fun h => by cases h⟩
  | false =>
  have hnw : ∀ {z : Prop}, wordB c.toNat = true → z := fun h => by rw [word_split hl hd] at h; cases h
  by_cases h34 : c = 34
  · subst h34
    obtain ⟨⟨t, m, e⟩, g1, _⟩ := unquote_same (ba (34 :: l)) (by rw [ba_len]; omega)
    have one34 : ∀ (s : ByteArray) {v : ByteArray × Int × Int}, Ends (fun f => text_Unquote.f f s) v → Ends (fun f => speclex_one.f f s (cls (34 : UInt8).toNat : Int)) (2, v.1, 0, v.2.1, v.2.2) := fun s v hv => by
      unfold speclex_one.f
      exact Ends.neg (by decide) (Ends.neg (by decide) (Ends.pos (by rfl) (Ends.bind hv (Ends.const _))))
    refine ⟨2, t, m, e, one34 _ g1, fun he => ?_⟩
    subst he
    obtain ⟨k, hk⟩ := Ends.get g1
    obtain ⟨b1, b2, b3⟩ := unquote_loc (34 :: l) (by omega) hk
    obtain ⟨mm, hmm⟩ : ∃ mm : Nat, m.toNat = mm + 1 := ⟨m.toNat - 1, by omega⟩
    rw [hmm, List.take_succ_cons] at b3
    have hml : (34 :: l.take mm).length = mm + 1 := by rw [List.length_cons, List.length_take]; omega
    refine ⟨l.take mm, l.drop mm, (List.take_append_drop mm l).symm, by rw [hml]; omega, (fun h => absurd h.1 (by decide)), (fun q => by cases q), hnw, fun r2 hl2 _ => ?_⟩
    have h3 := one34 (ba (34 :: l.take mm ++ r2)) (Ends.of_mono (text_Unquote.mono _) ⟨k, b3 r2 (by omega)⟩)
    refine h3.val ?_
    rw [hml, show ((mm + 1 : Nat) : Int) = m by omega]
  by_cases h47 : c = 47
  · subst h47
    have h1 := one_regex l (by omega)
    cases hm : termL false l with
    | none =>
      rw [hm] at h1
      exact ⟨0, ⟨#[]⟩, 0, 13, h1, fun h => by cases h⟩
    | some m =>
      rw [hm] at h1
      have hlt := termL_lt _ _ _ hm
      have htl : (l.take m).length = m := by rw [List.length_take]; omega
      have hsl : l = (l.take m ++ [47]) ++ l.drop (m + 1) := by
        have h47 : ∀ (l : List UInt8) (b : Bool) (m : Nat), termL b l = some m → l[m]? = some 47 := by
          intro l
          induction l with
          | nil => intro b m h; cases b <;> cases h
          | cons a l ih =>
            intro b m h
            simp only [termL] at h
            split at h
            · cases h
            split at h
            · obtain ⟨y, hy, rfl⟩ := Option.map_eq_some_iff.1 h
              rw [List.getElem?_cons_succ]; exact ih _ _ hy
            split at h
            · obtain ⟨y, hy, rfl⟩ := Option.map_eq_some_iff.1 h
              rw [List.getElem?_cons_succ]; exact ih _ _ hy
            split at h
            · rename_i q; cases h; rw [q]; rfl
            · obtain ⟨y, hy, rfl⟩ := Option.map_eq_some_iff.1 h
              rw [List.getElem?_cons_succ]; exact ih _ _ hy
        have h5 := h47 _ _ _ hm
        rw [List.getElem?_eq_getElem hlt] at h5
        have h6 := List.drop_eq_getElem_cons hlt
        rw [Option.some.inj h5] at h6
        conv => lhs; rw [← List.take_append_drop m l, h6]
        simp
      refine ⟨3, ba (l.take m), ((m + 2 : Nat) : Int), 0, h1, fun _ => ⟨l.take m ++ [47], l.drop (m + 1), hsl, by rw [List.length_cons, List.length_append, htl]; rfl, (fun h => absurd h.1 (by decide)), (fun q => by cases q), hnw, fun r2 hl2 _ => ?_⟩⟩
      have h3 := one_regex (l.take m ++ 47 :: r2) (by rw [List.length_cons, List.length_append, List.length_cons]; omega)
      rw [termL_take l false m hm r2] at h3
      have e : (l.take m ++ 47 :: r2).take m = l.take m := List.take_left' htl
      simp only [e] at h3
      have e2 : (47 :: (l.take m ++ [47]) ++ r2 : List UInt8) = 47 :: (l.take m ++ 47 :: r2) := by simp
      rw [e2]
      refine h3.val ?_
      rw [show (47 :: (l.take m ++ [47]) : List UInt8).length = m + 2 by rw [List.length_cons, List.length_append, htl]; rfl]
  by_cases h37 : c = 37
  · subst h37
    have h1 := one_percent r x hx hr (by rw [List.length_append, List.length_cons]; omega)
    by_cases hw : (wordsL.any fun w => w.toList == (ba (37 :: x)).toList) = true
    · rw [if_pos hw] at h1
      refine ⟨5, ba (37 :: x), ((37 :: x : List UInt8).length : Int), 0, by rw [hxr]; exact h1, fun _ => ⟨x, r, hxr, rfl, (fun h => absurd h.1 (by decide)), (fun q => by cases q), hnw, fun r2 hl2 h2 => ?_⟩⟩
      have h3 := one_percent r2 x hx (stops r2 h2) (by rw [List.length_append, List.length_cons]; omega)
      rw [if_pos hw] at h3
      exact h3
    · rw [if_neg hw] at h1
      refine ⟨6, ba [37], 1, 0, by rw [hxr]; exact h1, fun _ => ⟨[], l, rfl, rfl, (fun h => (hash37 h).elim), (fun q => by cases q), hnw, fun r2 hl2 h2 => ?_⟩⟩
      obtain ⟨x2, q2, hxq, hx2, hq2⟩ := run_split r2
      have hl3 : r2.length = x2.length + q2.length := by rw [hxq, List.length_append]
      have h3 := one_percent q2 x2 hx2 hq2 (by rw [List.length_append, List.length_cons]; omega)
      have hw2 : ¬ (wordsL.any fun w => w.toList == (ba (37 :: x2)).toList) = true := by
        have e1 : wrun r2 = x2 := by rw [hxq]; exact wrun_app x2 q2 hx2 hq2
        have e2 : wrun l = x := by rw [hxr]; exact wrun_app x r hx hr
        rcases h2 with h2 | h2
        · rw [← e1, h2, word37]; simp
        · rw [← e1, h2, e2]; exact hw
      rw [if_neg hw2] at h3
      rw [show (37 :: [] ++ r2 : List UInt8) = 37 :: x2 ++ q2 by rw [hxq]; rfl]
      exact h3
  rcases cls_rest c.toNat hb2 hl hd (fun q => h34 (UInt8.toNat_inj.1 q)) (fun q => h47 (UInt8.toNat_inj.1 q)) (fun q => h37 (UInt8.toNat_inj.1 q)) with h | ⟨h, hsg⟩ | ⟨h, hsg⟩
  · exact absurd h h7
  · refine ⟨6, ba [c], 1, 0, one_sign l c hsg, fun _ => ⟨[], l, rfl, rfl, (fun h => ?_), (fun q => ⟨⟨rfl, by rw [q]⟩, rfl⟩), hnw, fun r2 _ _ => one_sign r2 c hsg⟩⟩
    have := congrArg (fun b : ByteArray => b.data.toList) h.2
    simp only [ba_list] at this
    injection this with e _
  · exact ⟨0, ⟨#[]⟩, 0, 12, one_bad l c h, fun h => by cases h⟩
end Go.Proofs.YthijdjpipjbkbaaDoor.H
end
section
namespace Go.Proofs.YthijdjpipjbkbaaDoor.H
open Go.RowKit Go.Proofs.YthijdjpipjbkbaaDoorW.PrintWords Go.Proofs.YthijdjpipjbkbaaDoorW.PrintLast Go.Proofs.YthijdjpipjbkbaaDoorW.PrintMore
set_option linter.unusedVariables false
set_option linter.unusedSimpArgs false
end Go.Proofs.YthijdjpipjbkbaaDoor.H
end
section
namespace Go.Proofs.YthijdjpipjbkbaaDoor.H
open Go.RowKit Go.Proofs.YthijdjpipjbkbaaDoorW.PrintWords Go.Proofs.YthijdjpipjbkbaaDoorW.PrintLast Go.Proofs.YthijdjpipjbkbaaDoorW.PrintMore
set_option linter.unusedVariables false
set_option linter.unusedSimpArgs false
def comL : List UInt8 → Bool
  | [] => false
  | [c] => c == 35
  | c :: d :: _ => c == 35 && !letB d.toNat
theorem comL_35 {c : UInt8} {l : List UInt8} (h : comL (c :: l) = true) : c = 35 := by
  cases l with
  | nil => exact beq_iff_eq.1 h
  | cons d l => simp only [comL, Bool.and_eq_true, beq_iff_eq] at h; exact h.1
theorem comL_ne {c : UInt8} (l : List UInt8) (h : c ≠ 35) : comL (c :: l) = false := by
  cases q : comL (c :: l) with
  | false => rfl
  | true => exact absurd (comL_35 q) h
theorem byteAt_get {l : List UInt8} {i : Nat} {c : UInt8} {t : List UInt8} (h : l.drop i = c :: t) : byteAt (ba l) i = c.toNat := by
  have := (bt_ba h).2
  unfold byteAt
  rw [this]; rfl
theorem isCom_list {l : List UInt8} {i : Nat} {m : List UInt8} (h : l.drop i = m) (hm : m ≠ []) : isCom (ba l) i = comL m := by
  cases m with
  | nil => exact absurd rfl hm
  | cons c t =>
    have hb := byteAt_get h
    have h8 := cls8 c.toNat c.toNat_lt
    have h35 : (c.toNat = 35) ↔ c = 35 := ⟨fun q => UInt8.toNat_inj.1 q, fun q => by rw [q]; rfl⟩
    obtain ⟨hlt, ht, _⟩ := drop_cons h
    have hz : (ba l).size = l.length := ba_len l
    have hsz : l.length - i = t.length + 1 := by have := congrArg List.length h; rw [List.length_drop] at this; exact this
    unfold isCom
    rw [hb]
    by_cases q : c = 35
    · rw [show (cls c.toNat == 8) = true by rw [beq_iff_eq]; exact h8.2 (h35.2 q), Bool.true_and]
      cases t with
      | nil =>
        simp only [List.length_nil] at hsz
        rw [decide_eq_true (by omega), Bool.true_or, q]; rfl
      | cons d t =>
        simp only [List.length_cons] at hsz
        rw [decide_eq_false (by omega), Bool.false_or, byteAt_get ht, q]; rfl
    · rw [show (cls c.toNat == 8) = false by rw [beq_eq_false_iff_ne]; exact fun z => q (h35.1 (h8.1 z)), Bool.false_and, comL_ne t q]
inductive Sc : Nat → List UInt8 → List S32 → Prop
  | nil (a : Nat) : Sc a [] []
  | last (a : Nat) (u : List UInt8) (h : comL u = true) (hn : ∀ c ∈ u, c ≠ 10) : Sc a u []
  | com (a : Nat) (c : UInt8) (u r : List UInt8) (L : List S32) (h : comL (c :: u ++ 10 :: r) = true) (hn : ∀ x ∈ c :: u, x ≠ 10) (hr : Sc (a + (c :: u).length) (10 :: r) L) : Sc a (c :: u ++ 10 :: r) L
  | space (a : Nat) (c : UInt8) (l : List UInt8) (L : List S32) (h : cls c.toNat = 7) (hr : Sc (a + 1) l L) : Sc a (c :: l) L
  | tok (a : Nat) (c : UInt8) (v r : List UInt8) (L : List S32) (k : Int) (t : ByteArray) (h7 : cls c.toNat ≠ 7) (hc : comL (c :: v ++ r) = false) (h : TokAt c v r k t) (hr : Sc (a + (c :: v).length) r L) : Sc a (c :: v ++ r) (⟨k, t, (a : Int)⟩ :: L)
theorem Sc.len {a : Nat} {l : List UInt8} {L : List S32} (h : Sc a l L) : L.length ≤ l.length := by
  induction h with
  | nil a => exact Nat.le_refl _
  | last a u h hn => exact Nat.zero_le _
  | com a c u r L h hn hr ih => rw [List.length_append]; omega
  | space a c l L h hr ih => rw [List.length_cons]; omega
  | tok a c v r L k t h7 hc h hr ih => rw [List.length_append, List.length_cons, List.length_cons]; omega
def Incr : Nat → Nat → List S32 → Prop
  | _, _, [] => True
  | a, b, m :: r => ∃ i : Nat, m.f2 = (i : Int) ∧ a ≤ i ∧ i < b ∧ Incr (i + 1) b r
theorem Incr.mono : ∀ {L : List S32} {a a2 b : Nat}, a2 ≤ a → Incr a b L → Incr a2 b L
  | [], _, _, _, _, _ => trivial
  | m :: r, a, a2, b, h, ⟨i, h1, h2, h3, h4⟩ => ⟨i, h1, by omega, h3, h4⟩
theorem Sc.incr {a : Nat} {l : List UInt8} {L : List S32} (h : Sc a l L) : Incr a (a + l.length) L := by
  induction h with
  | nil a => trivial
  | last a u h hn => trivial
  | com a c u r L h hn hr ih =>
    rw [List.length_append, ← Nat.add_assoc]
    exact ih.mono (by omega)
  | space a c l L h hr ih =>
    rw [List.length_cons, show a + (l.length + 1) = a + 1 + l.length by omega]
    exact ih.mono (by omega)
  | tok a c v r L k t h7 hc h hr ih =>
    refine ⟨a, rfl, Nat.le_refl _, by rw [List.length_append, List.length_cons]; omega, ?_⟩
    rw [List.length_append, ← Nat.add_assoc]
    exact ih.mono (by rw [List.length_cons]; omega)
theorem Sc.move {a : Nat} {l : List UInt8} {L : List S32} (h : Sc a l L) : ∀ b, ∃ M, Sc b l M ∧ M.map (fun m => (m.f0, m.f1)) = L.map (fun m => (m.f0, m.f1)) := by
  induction h with
  | nil a => exact fun b => ⟨[], .nil b, rfl⟩
  | last a u h hn => exact fun b => ⟨[], .last b u h hn, rfl⟩
  | com a c u r L h hn hr ih =>
    intro b
    obtain ⟨M, h1, h2⟩ := ih (b + (c :: u).length)
    exact ⟨M, .com b c u r M h hn h1, h2⟩
  | space a c l L h hr ih =>
    intro b
    obtain ⟨M, h1, h2⟩ := ih (b + 1)
    exact ⟨M, .space b c l M h h1, h2⟩
  | tok a c v r L k t h7 hc h hr ih =>
    intro b
    obtain ⟨M, h1, h2⟩ := ih (b + (c :: v).length)
    exact ⟨⟨k, t, (b : Int)⟩ :: M, .tok b c v r M k t h7 hc h h1, by rw [List.map_cons, List.map_cons, h2]⟩
theorem wrun_cut {u w w2 : List UInt8} (h : u ≠ [] → runLen (u ++ w) ≤ u.length) (hs : Stop w2) : wrun (u ++ w2) = [] ∨ wrun (u ++ w2) = wrun (u ++ w) := by
  by_cases hu : u = []
  · subst hu; exact .inl (wrun_stop hs)
  · right
    have h1 := h hu
    clear h hu
    induction u with
    | nil =>
      simp only [List.nil_append, List.length_nil] at h1 ⊢
      rw [wrun_len] at h1
      rw [wrun_stop hs, List.eq_nil_of_length_eq_zero (show (wrun w).length = 0 by omega)]
    | cons c u ih =>
      simp only [List.cons_append, runLen_cons, List.length_cons] at h1
      unfold wrun at ih ⊢
      simp only [List.cons_append, List.takeWhile_cons]
      split
      · rename_i hc
        rw [if_pos hc] at h1
        rw [ih (by omega)]
      · rfl
theorem sc_cut {a : Nat} {l : List UInt8} {L : List S32} (h : Sc a l L) : ∀ (L1 : List S32) (m : S32) (L2 : List S32), L = L1 ++ m :: L2 → (∀ x, L1.getLast? = some x → ¬ isHash x.f0 x.f1) →
    ∃ (u : List UInt8) (c : UInt8) (w : List UInt8), l = u ++ c :: w ∧ m.f2 = ((a + u.length : Nat) : Int) ∧ cls c.toNat ≠ 7 ∧ Sc (a + u.length) (c :: w) (m :: L2) ∧ (L1 ≠ [] → u ≠ []) ∧ (u ≠ [] → runLen l ≤ u.length) ∧
      ∀ (w2 : List UInt8) (M : List S32), (u ++ w2).length ≤ 1000 → Stop w2 → Sc (a + u.length) w2 M → Sc a (u ++ w2) (L1 ++ M) := by
  induction h with
  | nil a => intro L1 m L2 e; exact absurd (congrArg List.length e) (by simp)
  | last a u h hn => intro L1 m L2 e; exact absurd (congrArg List.length e) (by simp)
  | com a c u r L h hn hr ih =>
    intro L1 m L2 e hl
    obtain ⟨u2, d, w, e1, e2, e3, e4, e5, e6, e7⟩ := ih L1 m L2 e hl
    obtain ⟨u3, rfl⟩ : ∃ u3, u2 = 10 :: u3 := by
      cases u2 with
      | nil => rw [List.nil_append] at e1; injection e1 with q _; rw [← q] at e3; exact absurd (by decide) e3
      | cons x u3 => rw [List.cons_append] at e1; injection e1 with q _; exact ⟨u3, by rw [q]⟩
    have e1' : r = u3 ++ d :: w := by rw [List.cons_append] at e1; injection e1
    refine ⟨c :: u ++ 10 :: u3, d, w, by rw [e1', List.append_assoc]; rfl, by rw [e2, List.length_append, ← Nat.add_assoc], e3, by rw [List.length_append, ← Nat.add_assoc]; exact e4, fun _ => by simp, fun _ => ?_, fun w2 M h1 h2 h3 => ?_⟩
    · have : c = 35 := comL_35 h
      rw [List.cons_append, runLen_cons, this, if_neg (by decide)]
      exact Nat.zero_le _
    · have h0 : (c :: u ++ (10 :: u3 ++ w2)).length ≤ 1000 := by rw [← List.append_assoc]; exact h1
      rw [List.length_append] at h0
      have h4 := e7 w2 M (by omega) h2 (by rw [List.length_append, ← Nat.add_assoc] at h3; exact h3)
      rw [List.append_assoc]
      show Sc a (c :: u ++ 10 :: (u3 ++ w2)) (L1 ++ M)
      refine .com a c u (u3 ++ w2) _ ?_ hn h4
      cases u with
      | nil => exact h
      | cons y u => exact h
  | space a c l L h hr ih =>
    intro L1 m L2 e hl
    obtain ⟨u2, d, w, e1, e2, e3, e4, e5, e6, e7⟩ := ih L1 m L2 e hl
    have e8 : a + 1 + u2.length = a + (c :: u2).length := by rw [List.length_cons]; omega
    rw [e8] at e2 e4 e7
    refine ⟨c :: u2, d, w, by rw [e1]; rfl, e2, e3, e4, fun _ => by simp, fun _ => ?_, fun w2 M h1 h2 h3 => ?_⟩
    · have : wordB c.toNat = false := by
        cases q : wordB c.toNat with
        | false => rfl
        | true =>
          have hc := (cls7 c.toNat c.toNat_lt).1 h
          rcases hc with hc | hc | hc | hc <;> (rw [hc] at q; exact absurd q (by decide))
      rw [runLen_cons, this, if_neg (by simp)]
      exact Nat.zero_le _
    · exact .space a c _ _ h (e7 w2 M (by rw [List.cons_append, List.length_cons] at h1; omega) h2 h3)
  | tok a c v r L k t h7 hc h hr ih =>
    intro L1 m L2 e hl
    cases L1 with
    | nil =>
      rw [List.nil_append] at e
      injection e with e1 e2
      subst e1 e2
      refine ⟨[], c, v ++ r, rfl, rfl, h7, .tok a c v r L k t h7 hc h hr, fun q => absurd rfl q, fun q => absurd rfl q, fun w2 M _ _ h3 => h3⟩
    | cons x L1 =>
      rw [List.cons_append] at e
      injection e with e1 e2
      subst e1
      obtain ⟨u2, d, w, f1, f2, f3, f4, f5, f6, f7⟩ := ih L1 m L2 e2 (fun y hy => hl y (by
        cases L1 with
        | nil => cases hy
        | cons z L1 => rw [List.getLast?_cons_cons]; exact hy))
      have e8 : a + (c :: v).length + u2.length = a + (c :: v ++ u2).length := by rw [List.length_append]; omega
      rw [e8] at f2 f4 f7
      obtain ⟨t1, t2, t3, t4⟩ := h
      refine ⟨c :: v ++ u2, d, w, by rw [f1, List.append_assoc], f2, f3, f4, fun _ => by simp, fun _ => ?_, fun w2 M h1 h2 h3 => ?_⟩
      · by_cases hw : wordB c.toNat = true
        · rw [run_app (c :: v) r (t3 hw).1 (t3 hw).2, List.length_append]; omega
        · rw [List.cons_append, runLen_cons, if_neg hw]; exact Nat.zero_le _
      · have hlen : (u2 ++ w2).length ≤ 1000 := by rw [List.append_assoc, List.length_append] at h1; omega
        have hcut := wrun_cut (u := u2) (w := d :: w) (w2 := w2) (by rw [← f1]; exact f6) h2
        rw [← f1] at hcut
        have h5 := f7 w2 M hlen h2 h3
        rw [List.append_assoc]
        refine .tok a c v (u2 ++ w2) (L1 ++ M) k t h7 ?_ ⟨t1, t2, fun hw => ?_, fun r2 q1 q2 => t4 r2 q1 ?_⟩ h5
        · by_cases q : c = 35
          · obtain ⟨hh, hv⟩ := t2 q
            subst hv
            have hu2 : u2 ≠ [] := by
              refine f5 fun hn => ?_
              subst hn
              exact hl _ rfl hh
            cases u2 with
            | nil => exact absurd rfl hu2
            | cons y u3 => rw [f1] at hc; exact hc
          · exact comL_ne _ q
        · obtain ⟨h6, h7⟩ := t3 hw
          exact ⟨h6, stop_wrun (by rcases hcut with q | q; exact q; rw [q, wrun_stop h7])⟩
        · rcases q2 with q2 | q2
          · exact .inl q2
          · rcases hcut with q | q
            · exact .inl (by rw [q2, q])
            · exact .inr (by rw [q2, q])
end Go.Proofs.YthijdjpipjbkbaaDoor.H
end
section
namespace Go.Proofs.YthijdjpipjbkbaaDoor.H
open Go.RowKit Go.Proofs.YthijdjpipjbkbaaDoorW.PrintWords Go.Proofs.YthijdjpipjbkbaaDoorW.PrintLast Go.Proofs.YthijdjpipjbkbaaDoorW.PrintMore
set_option linter.unusedVariables false
set_option linter.unusedSimpArgs false
theorem no10 (c : UInt8) (h : c.toNat ≠ 10) : c ≠ 10 := fun q => h (by rw [q]; rfl)
theorem nl_split {l : List UInt8} {i : Nat} (hi : i ≤ l.length) : (nlAt (ba l) i < 0 → ∀ c ∈ l.drop i, c ≠ 10) ∧
    (0 ≤ nlAt (ba l) i → ∃ u r, l.drop i = u ++ 10 :: r ∧ (∀ c ∈ u, c ≠ 10) ∧ nlAt (ba l) i = (u.length : Int)) := by
  have hz : (ba l).size = l.length := ba_len l
  have dr : ∀ q, q < l.length → l.drop q = (l[q]?.getD 0) :: l.drop (q + 1) := fun q hq => by
    rw [List.drop_eq_getElem_cons hq, List.getElem?_eq_getElem hq]; rfl
  constructor
  · intro h c hc
    obtain ⟨q, hq, rfl⟩ := List.mem_iff_getElem.1 hc
    rw [List.length_drop] at hq
    have h1 := nl_none h (i + q) (by omega) (by omega)
    rw [byteAt_get (dr (i + q) (by omega))] at h1
    rw [List.getElem_drop]
    rw [List.getElem?_eq_getElem (by omega)] at h1
    exact no10 _ h1
  · intro h
    obtain ⟨j, g1, g2, g3, g4, g5⟩ := nl_some (by omega) h
    have hjl : j < l.length := by omega
    refine ⟨(l.drop i).take (j - i), l.drop (j + 1), ?_, fun c hc => ?_, ?_⟩
    · have e : l.drop j = 10 :: l.drop (j + 1) := by
        have h2 := dr j hjl
        rw [byteAt_get h2] at g4
        rw [byte_eq (n := 10) (by omega) g4] at h2
        exact h2
      have e2 : (l.drop i).drop (j - i) = l.drop j := by rw [List.drop_drop, show i + (j - i) = j by omega]
      rw [← e, ← e2, List.take_append_drop]
    · obtain ⟨q, hq, rfl⟩ := List.mem_iff_getElem.1 hc
      rw [List.length_take, List.length_drop] at hq
      have h1 := g5 (i + q) (by omega) (by omega)
      rw [byteAt_get (dr (i + q) (by omega)), List.getElem?_eq_getElem (by omega)] at h1
      rw [List.getElem_take, List.getElem_drop]
      exact no10 _ h1
    · rw [g1, List.length_take, List.length_drop]; congr 1; omega
theorem nl_is {l u r : List UInt8} {i : Nat} (h : l.drop i = u ++ 10 :: r) (hu : ∀ c ∈ u, c ≠ 10) : nlAt (ba l) i = (u.length : Int) := by
  have hil : i ≤ l.length := by
    rcases Nat.lt_or_ge l.length i with q | q
    · rw [List.drop_of_length_le (by omega)] at h
      exact absurd (congrArg List.length h) (by simp)
    · exact q
  obtain ⟨f1, f2⟩ := nl_split hil
  rcases Int.lt_or_le (nlAt (ba l) i) 0 with q | q
  · exact absurd rfl (f1 q 10 (by rw [h]; simp))
  · obtain ⟨u2, r2, g1, g2, g3⟩ := f2 q
    rw [g3]
    rw [h] at g1
    have : u = u2 := by
      clear h f1 f2 q g3
      induction u generalizing u2 with
      | nil =>
        cases u2 with
        | nil => rfl
        | cons x u2 => rw [List.nil_append, List.cons_append] at g1; injection g1 with q _; exact absurd q.symm (g2 x List.mem_cons_self)
      | cons y u ih =>
        cases u2 with
        | nil => rw [List.nil_append, List.cons_append] at g1; injection g1 with q _; exact absurd q (hu y List.mem_cons_self)
        | cons x u2 =>
          rw [List.cons_append, List.cons_append] at g1
          injection g1 with q g1
          rw [q, ih (fun c hc => hu c (List.mem_cons_of_mem _ hc)) u2 g1 (fun c hc => g2 c (List.mem_cons_of_mem _ hc))]
    rw [this]
theorem sc_ends {a : Nat} {l : List UInt8} {L : List S32} (h : Sc a l L) : ∀ (pre : List UInt8) (out : List S32), pre.length = a → (pre ++ l).length ≤ 1000 → out.length ≤ a →
    Ends (fun k => speclex_Scan.l0 k (ba (pre ++ l)) out a) (out ++ L, 0, 0, ⟨#[]⟩) := by
  induction h with
  | nil a =>
    intro pre out h1 h2 h3
    exact Ends.step (fun k => speclex_Scan.l0.eq_2 ..) (Ends.neg (by rw [ba_len, List.append_nil]; omega) ((Ends.const _).val (by simp)))
  | last a u h hn =>
    intro pre out h1 h2 h3
    have hd : (pre ++ u).drop a = u := List.drop_left' h1
    have hu : u ≠ [] := fun q => by rw [q] at h; cases h
    have hul : 0 < u.length := List.length_pos_iff.2 hu
    rw [List.length_append] at h2
    have hnl : nlAt (ba (pre ++ u)) a < 0 := by
      rcases Int.lt_or_le (nlAt (ba (pre ++ u)) a) 0 with q | q
      · exact q
      · obtain ⟨x, y, g1, g2, g3⟩ := (nl_split (l := pre ++ u) (i := a) (by rw [List.length_append]; omega)).2 q
        rw [hd] at g1
        exact absurd rfl (hn 10 (by rw [g1]; simp))
    exact Ends.step (fun k => speclex_Scan.l0.eq_2 ..) (Ends.pos (by rw [ba_len, List.length_append]; omega) (Ends.pos (by rw [isCom_list hd hu]; exact h) (Ends.pos hnl ((Ends.const _).val (by simp)))))
  | com a c u r L h hn hr ih =>
    intro pre out h1 h2 h3
    have hd : (pre ++ (c :: u ++ 10 :: r)).drop a = c :: u ++ 10 :: r := List.drop_left' h1
    have hnl := nl_is hd hn
    have hsz : (ba (pre ++ (c :: u ++ 10 :: r))).size = (pre ++ (c :: u ++ 10 :: r)).length := ba_len _
    have h20 := h2
    rw [List.length_append, List.length_append, List.length_cons] at h20
    rw [List.length_append, List.length_append, List.length_cons] at hsz
    have g1 := ih (pre ++ c :: u) out (by rw [List.length_append, h1]) (by rw [List.append_assoc]; exact h2) (by omega)
    rw [List.append_assoc] at g1
    refine Ends.step (fun k => speclex_Scan.l0.eq_2 ..) (Ends.pos (by omega) (Ends.pos (by rw [isCom_list hd (by simp)]; exact h) (Ends.neg (by rw [hnl]; omega) (Ends.pos (by rw [hnl]; simp only [List.length_cons]; omega) ?_))))
    rw [hnl, Int.toNat_natCast]
    exact g1
  | space a c l L h hr ih =>
    intro pre out h1 h2 h3
    have hd : (pre ++ c :: l).drop a = c :: l := List.drop_left' h1
    have hby := byteAt_get hd
    have hsz : (ba (pre ++ c :: l)).size = (pre ++ c :: l).length := ba_len _
    have h20 := h2
    rw [List.length_append, List.length_cons] at h20 hsz
    have hc35 : c ≠ 35 := fun q => by rw [q] at h; exact absurd h (by decide)
    have g1 := ih (pre ++ [c]) out (by rw [List.length_append, h1]; rfl) (by rw [List.append_assoc]; exact h2) (by omega)
    rw [List.append_assoc] at g1
    refine Ends.step (fun k => speclex_Scan.l0.eq_2 ..) (Ends.pos (by omega) (Ends.neg (by rw [isCom_list hd (by simp), comL_ne l hc35]; simp) (Ends.pos (by rw [hby]; exact h) ?_)))
    exact g1
  | tok a c v r L k t h7 hc h hr ih =>
    intro pre out h1 h2 h3
    have hd : (pre ++ (c :: v ++ r)).drop a = c :: v ++ r := List.drop_left' h1
    have hby := byteAt_get (show (pre ++ (c :: v ++ r)).drop a = c :: (v ++ r) from hd)
    have hsz : (ba (pre ++ (c :: v ++ r))).size = (pre ++ (c :: v ++ r)).length := ba_len _
    have h20 := h2
    rw [List.length_append, List.length_append, List.length_cons] at h20 hsz
    have hex : (ba (pre ++ (c :: v ++ r))).extract a (ba (pre ++ (c :: v ++ r))).size = ba (c :: v ++ r) := by rw [ba_drop, hd]
    have g1 := ih (pre ++ c :: v) (out ++ [⟨k, t, (a : Int)⟩]) (by rw [List.length_append, h1]) (by rw [List.append_assoc]; exact h2) (by rw [List.length_append, List.length_singleton, List.length_cons]; omega)
    rw [List.append_assoc, List.append_assoc] at g1
    have g2 := h.2.2.2 r (by omega) (.inr rfl)
    refine Ends.step (fun k => speclex_Scan.l0.eq_2 ..) (Ends.pos (by omega) (Ends.neg (by rw [isCom_list hd (by simp), hc]; simp) (Ends.neg (by rw [hby]; exact h7) (Ends.neg (by omega) (Ends.pos (by omega) ?_)))))
    rw [hby, hex]
    refine Ends.bind g2 (Ends.pos rfl (Ends.pos ⟨show (0 : Int) ≤ ((c :: v).length : Int) by omega, show ((c :: v).length : Int) ≤ 4294967296 by rw [List.length_cons]; omega⟩ ?_))
    dsimp only
    rw [Int.toNat_natCast]
    exact g1
theorem scan_sc (l : List UInt8) (hs : l.length ≤ 900) : ∀ (d i : Nat) (out : List S32), l.length ≤ i + d → i ≤ l.length → out.length ≤ i →
    ∃ v : List S32 × Int × Int × ByteArray, Ends (fun k => speclex_Scan.l0 k (ba l) out i) v ∧
      ((∃ L, v = (out ++ L, 0, 0, ⟨#[]⟩) ∧ Sc i (l.drop i) L) ∨ (∃ e a, v = ([], e, a, ⟨#[]⟩) ∧ e ≠ 0)) := by
  have hz : (ba l).size = l.length := ba_len l
  intro d
  induction d using Nat.strongRecOn with
  | ind d ih =>
    intro i out h1 h2 h3
    by_cases hi : i < l.length
    case neg =>
      refine ⟨(out, 0, 0, ⟨#[]⟩), Ends.step (fun k => speclex_Scan.l0.eq_2 ..) (Ends.neg (by omega) (Ends.const _)), .inl ⟨[], by simp, ?_⟩⟩
      rw [List.drop_of_length_le (by omega)]
      exact .nil i
    obtain ⟨c, m, hd⟩ : ∃ c m, l.drop i = c :: m := ⟨_, _, List.drop_eq_getElem_cons hi⟩
    have hm : m = l.drop (i + 1) := by have := (drop_cons hd).2.1; exact this.symm
    have hby := byteAt_get hd
    have hcl := isCom_list hd (by simp)
    have hml : (c :: m).length = l.length - i := by rw [← hd, List.length_drop]
    have hml2 : (c :: m).length = m.length + 1 := rfl
    cases hcom : comL (c :: m) with
    | true =>
      rw [hcom] at hcl
      obtain ⟨f1, f2⟩ := nl_split (l := l) (i := i) h2
      by_cases hn : nlAt (ba l) i < 0
      · refine ⟨(out, 0, 0, ⟨#[]⟩), Ends.step (fun k => speclex_Scan.l0.eq_2 ..) (Ends.pos (by omega) (Ends.pos hcl (Ends.pos hn (Ends.const _)))), .inl ⟨[], by simp, ?_⟩⟩
        have := f1 hn
        rw [hd] at this ⊢
        exact .last i _ hcom this
      · obtain ⟨u, r, g1, g2, g3⟩ := f2 (by omega)
        rw [hd] at g1
        obtain ⟨u2, rfl⟩ : ∃ u2, u = c :: u2 := by
          cases u with
          | nil => rw [List.nil_append] at g1; injection g1 with q _; have := comL_35 hcom; rw [q] at this; exact absurd this (by decide)
          | cons x u2 => rw [List.cons_append] at g1; injection g1 with q _; exact ⟨u2, by rw [q]⟩
        have hlen := congrArg List.length g1
        rw [List.length_append, hml, List.length_cons, List.length_cons] at hlen
        have hdr : l.drop (i + (c :: u2).length) = 10 :: r := by rw [← List.drop_drop, hd, g1]; exact List.drop_left' rfl
        obtain ⟨v, k1, k2⟩ := ih (d - (c :: u2).length) (by rw [List.length_cons]; omega) (i + (c :: u2).length) out (by rw [List.length_cons]; omega) (by rw [List.length_cons]; omega) (by omega)
        refine ⟨v, ?_, ?_⟩
        · refine Ends.step (fun k => speclex_Scan.l0.eq_2 ..) (Ends.pos (by omega) (Ends.pos hcl (Ends.neg hn (Ends.pos (by rw [g3]; rw [List.length_cons]; omega) ?_))))
          rw [g3, Int.toNat_natCast]
          exact k1
        · rcases k2 with ⟨L, e1, e2⟩ | q
          · refine .inl ⟨L, e1, ?_⟩
            rw [hdr] at e2
            rw [hd, g1]
            exact .com i c u2 r L (by rw [← g1]; exact hcom) g2 e2
          · exact .inr q
    | false =>
      rw [hcom] at hcl
      have hcn : ¬ isCom (ba l) i = true := by rw [hcl]; simp
      by_cases h7 : cls c.toNat = 7
      · obtain ⟨v, k1, k2⟩ := ih (d - 1) (by omega) (i + 1) out (by omega) (by omega) (by omega)
        refine ⟨v, Ends.step (fun k => speclex_Scan.l0.eq_2 ..) (Ends.pos (by omega) (Ends.neg hcn (Ends.pos (by rw [hby]; exact h7) k1))), ?_⟩
        rcases k2 with ⟨L, e1, e2⟩ | q
        · refine .inl ⟨L, e1, ?_⟩
          rw [← hm] at e2
          rw [hd]
          exact .space i c m L h7 e2
        · exact .inr q
      · have hex : (ba l).extract i (ba l).size = ba (c :: m) := by rw [ba_drop, hd]
        obtain ⟨k, t, n, e, p1, p2⟩ := tok_loc c m (by omega) h7
        have w1 : ¬ out.length = 16384 := by omega
        have w2 : out.length < 4294967296 := by omega
        by_cases he : e = 0
        · obtain ⟨x, r, q1, q2, q3⟩ := p2 he
          have hlx := congrArg List.length q1
          rw [List.length_append] at hlx
          have hdr : l.drop (i + (c :: x).length) = r := by rw [← List.drop_drop, hd, q1]; exact List.drop_left' rfl
          have hxl : (c :: x).length = x.length + 1 := rfl
          obtain ⟨v, k1, k2⟩ := ih (d - (c :: x).length) (by omega) (i + (c :: x).length) (out ++ [⟨k, t, (i : Int)⟩]) (by omega) (by omega) (by rw [List.length_append, List.length_singleton]; omega)
          refine ⟨v, ?_, ?_⟩
          · refine Ends.step (fun k => speclex_Scan.l0.eq_2 ..) (Ends.pos (by omega) (Ends.neg hcn (Ends.neg (by rw [hby]; exact h7) (Ends.neg w1 (Ends.pos w2 ?_)))))
            rw [hby, hex]
            refine Ends.bind p1 (Ends.pos he (Ends.pos ⟨show (0 : Int) ≤ n by omega, show n ≤ 4294967296 by omega⟩ ?_))
            dsimp only
            rw [q2, Int.toNat_natCast]
            exact k1
          · rcases k2 with ⟨L, e1, e2⟩ | q
            · refine .inl ⟨⟨k, t, (i : Int)⟩ :: L, by rw [e1]; simp, ?_⟩
              rw [hdr] at e2
              rw [hd, q1]
              rw [q1] at hcom
              exact .tok i c x r L k t h7 hcom q3 e2
            · exact .inr q
        · refine ⟨([], e, (i : Int), ⟨#[]⟩), ?_, .inr ⟨e, (i : Int), rfl, he⟩⟩
          refine Ends.step (fun k => speclex_Scan.l0.eq_2 ..) (Ends.pos (by omega) (Ends.neg hcn (Ends.neg (by rw [hby]; exact h7) (Ends.neg w1 (Ends.pos w2 ?_)))))
          rw [hby, hex]
          exact Ends.bind p1 (Ends.neg he (Ends.const _))
end Go.Proofs.YthijdjpipjbkbaaDoor.H
end
section
namespace Go.Proofs.YthijdjpipjbkbaaDoor.H
open Go.RowKit Go.Shelf Go.Proofs.YthijdjpipjbkbaaDoorW.PrintWords Go.Proofs.YthijdjpipjbkbaaDoorW.PrintLast Go.Proofs.YthijdjpipjbkbaaDoorW.PrintMore
open Go.Maps
set_option linter.unusedVariables false
set_option linter.unusedSimpArgs false
set_option maxRecDepth 100000 in
set_option maxHeartbeats 8000000 in
theorem speclex_Scan.calls (k : Nat) (a0 : ByteArray) (r1 : List S32) (r2 r3 : Int) (r4 : ByteArray) (w : World) (hgw : GW w) (h : speclex_Scan.f k a0 = some (r1, r2, r3, r4)) :
    Calls Tryd.prog 9 #[.string a0] w fun e w' => ∃ v0_ : Value, e = .returned (.tuple #[v0_, .agg #[.int .i64 r2, .int .i64 r3, .string r4]]) ∧ Kd.R k32 32 w' w.heap.size (fun _ => True) v0_ r1 ∧ Below w.heap.size w w' := by
  have HGW := Aside0.mk hgw
  clear hgw
  have hu26 := Tryd.underlying26
  have hu32 := Tryd.underlying32
  have hzv := (zero_of_info info256).1
  have HB := Aside0.mk (Below.refl w.heap.size w)
  unfold speclex_Scan.f at h
  by_cases hsz : a0.size ≤ 65536
  case neg =>
    rw [if_neg hsz] at h
    simp only [Option.some.injEq, Prod.mk.injEq] at h
    obtain ⟨rfl, rfl, rfl, rfl⟩ := h
    have c2b0 : decide (65536 < (a0.size : Int)) = true := decide_eq_true (by omega)
    have c2b1 : decide (65536 < a0.size) = true := decide_eq_true (by omega)
    go_enter Tryd.func9, Tryd.ntmps9
    go_wp2_with ((with_reducible refine gate_dst (N := 3) rfl ?_); refine box_event ?hg (N := 3) ?hd (cs := #[.int .i64 0, .int .i64 0, .string (⟨#[]⟩ : ByteArray)]) (t := 26) ?hr ?_; (case hd => rfl); (case hg => rfl); (case hr => first | (go_simp; done) | (go_simp; rfl)); intro gd hg w3 hbox hb; have BKD := Aside0.mk hbox; have GD := Aside0.mk (show w.heap.size ≤ gd by omega); have HB3 := Aside0.mk hb; clear hbox hb hg; have hc0 : w3.cell? ⟨gd, 0, none⟩ = some (.int .i64 0) := (blk_cell BKD.out 0).trans rfl; have hc1 : w3.cell? ⟨gd, 1, none⟩ = some (.int .i64 0) := (blk_cell BKD.out 1).trans rfl; have hc2 : w3.cell? ⟨gd, 2, none⟩ = some (.string (⟨#[]⟩ : ByteArray)) := (blk_cell BKD.out 2).trans rfl; have hf0 := blk_frozen BKD.out 0; have hf1 := blk_frozen BKD.out 1; have hf2 := blk_frozen BKD.out 2)
    go_step3
    go_wp2
    exact ret0 BKD.out HB3.out GD.out rfl rfl rfl
  rw [if_pos hsz] at h
  have c2b0 : decide (65536 < (a0.size : Int)) = false := decide_eq_false (by omega)
  have c2b1 : decide (65536 < a0.size) = false := decide_eq_false (by omega)
  have H' := Aside0.mk h
  clear h
  go_enter Tryd.func9, Tryd.ntmps9
  go_wp2_with ((with_reducible refine gate_dst (N := 3) rfl ?_); refine box_event ?hg (N := 3) ?hd (cs := #[.int .i64 0, .int .i64 0, .string (⟨#[]⟩ : ByteArray)]) (t := 26) ?hr ?_; (case hd => rfl); (case hg => rfl); (case hr => first | (go_simp; done) | (go_simp; rfl)); intro gd hg w3 hbox hb; have BKD := Aside0.mk hbox; have GD := Aside0.mk (show w.heap.size ≤ gd by omega); have HB3 := Aside0.mk hb; clear hbox hb hg)
  go_step3
  go_wp2_with (first
    | (go_at_call 14; refine (speclex_begins.calls _).mono ?_; rintro e w4 ⟨rfl, hb⟩; have BKD4 := Aside0.mk (blk_below BKD.out hb); have HB4 := Aside0.mk (below_step HB3.out hb); clear hb)
    | ((with_reducible refine gate_dst (N := 4) rfl ?_); refine box_event ?hg (N := 4) ?hd (cs := Array.replicate 256 (.int .u8 0)) (t := 38) ?hr ?_; (case hd => rfl); (case hg => rfl); (case hr => first | (go_simp; done) | (go_simp; rfl)); intro gt hg w5 hbox hb; have BKT := Aside0.mk hbox; have GT := Aside0.mk hg; have BKD5 := Aside0.mk (blk_below BKD4.out hb); have HB5 := Aside0.mk (below_step HB4.out hb); clear hbox hb hg)
    | ((with_reducible refine gate_store (t := 38) (p := 4) (v := .tmp 16) rfl ?_); refine store_event rfl rfl rfl (RowT.store (RowT.of_zero BKT.out) cls) ?_; rintro _ rfl))
  go_step3
  go_wp2
  go_loopg [5, 6] k (fun g v5 v6 wx => ∃ (out : List S32) (i : Nat), v6 = .int .i64 (i : Int) ∧ Aside0 (speclex_Scan.l0 g a0 out i = some (r1, r2, r3, r4)) ∧ Aside0 (SC w gd gt v5 out wx))
  case atStart => exact ⟨[], 0, rfl, H', ⟨⟨below_setRow HB5.out (by have := below_size HB4.out; have := GT.out; omega) _, ⟨0, 0, ⟨#[]⟩, (setRow_other _ _ _ _ (by have := GT.out; have := blk_lt BKD4.out; omega)).trans BKD5.out⟩, RowT.setRow (RowT.of_zero BKT.out) cls, Kd.R_nil _ _ _ _ _⟩⟩⟩
  case round =>
    clear H' c2b0 c2b1 hzv
    obtain ⟨out, i, rfl, HA0, HS⟩ := hrel
    cases gk with
    | zero => exact absurd HA0.out (by simp [speclex_Scan.l0])
    | succ g =>
      have H := HA0.out
      clear HA0
      simp only [speclex_Scan.l0] at H
      by_cases hlt : i < a0.size
      case neg =>
        rw [if_neg hlt] at H
        simp only [Option.some.injEq, Prod.mk.injEq] at H
        obtain ⟨rfl, rfl, rfl, rfl⟩ := H
        have c7 : decide ((i : Int) < (a0.size : Int)) = false := decide_eq_false (by omega)
        obtain ⟨x0, x1, x2, ⟨hc0, hc1, hc2⟩, hf0, hf1, hf2⟩ := HS.out.dcell
        go_wp2
        exact HS.out.ret GD.out rfl rfl rfl (.inl ⟨rfl, rfl⟩)
      rw [if_pos hlt] at H
      have hlti : (i : Int) < (a0.size : Int) := by omega
      obtain ⟨hc, hc256⟩ := byteAt_bt a0 i
      obtain ⟨hd, hd256⟩ := byteAt_bt a0 (i + 1)
      have hlv := letter_val _ hd256
      have hx : (a0[i]'hlt).toNat = byteAt a0 i := by unfold byteAt bt; rw [dif_pos (by simpa using hlt)]; rfl
      have hx2 : ∀ h : i + 1 < a0.size, (a0[i + 1]'h).toNat = byteAt a0 (i + 1) := fun h => by unfold byteAt bt; rw [dif_pos (by simpa using h)]; rfl
      obtain ⟨htc, htf⟩ := HS.out.t.cell (byteAt a0 i) hc256
      have hcm : isCom a0 i = (cls (byteAt a0 i) == 8 && (decide (i + 1 = a0.size) || !letB (byteAt a0 (i + 1)))) := rfl
      obtain ⟨d, hdd⟩ : ∃ d, byteAt a0 (i + 1) = d := ⟨_, rfl⟩
      rw [hdd] at hlv hx2 hcm
      obtain ⟨c, hcc⟩ : ∃ c, byteAt a0 i = c := ⟨_, rfl⟩
      rw [hcc] at hx htc hcm H hc256
      have hci : (c : Int) < 256 := by omega
      obtain ⟨q, hq⟩ : ∃ q, cls c = q := ⟨_, rfl⟩
      rw [hq] at htc hcm H
      clear hc hd hdd hcc hq hd256
      by_cases com : isCom a0 i = true
      · rw [if_pos com] at H
        rw [com] at hcm
        obtain ⟨h8, he⟩ : q = 8 ∧ (i + 1 = a0.size ∨ letB d = false) := by
          have := hcm.symm
          simpa using this
        subst h8
        clear com hcm
        obtain ⟨n, hn⟩ : ∃ n, nlAt a0 i = n := ⟨_, rfl⟩
        have hIB : strings_IndexByte.f (a0.extract i a0.size) 10 = some n := by rw [← hn]; rfl
        rw [hn] at H
        clear hn
        obtain ⟨x0, x1, x2, ⟨hc0, hc1, hc2⟩, hf0, hf1, hf2⟩ := HS.out.dcell
        by_cases hneg : n < 0
        · rw [if_pos hneg] at H
          simp only [Option.some.injEq, Prod.mk.injEq] at H
          obtain ⟨rfl, rfl, rfl, rfl⟩ := H
          have dn : decide (n < 0) = true := decide_eq_true hneg
          by_cases he1 : i + 1 = a0.size
          · have b1 : (((i : Int) + 1) == (a0.size : Int)) = true := by simp; omega
            clear he
            go_wp2_with (go_at_call 16; refine (strings_IndexByte.calls _ _ n _ hIB).mono ?_; rintro e w' ⟨rfl, q2_, rfl⟩)
            exact (HS.out.below (by repeat (first | exact Below.refl _ _ | apply pw_below_drewN))).ret GD.out rfl rfl rfl (.inl ⟨rfl, rfl⟩)
          · have hl := he.resolve_left he1
            rw [hl] at hlv
            have b1 : (((i : Int) + 1) == (a0.size : Int)) = false := by simp; omega
            clear he
            go_wp2_with (first | (go_at_call 15; refine (speclex_letter.calls _ _ _ hlv).mono ?_; rintro e w' ⟨rfl, q_, rfl⟩) | (go_at_call 16; refine (strings_IndexByte.calls _ _ n _ hIB).mono ?_; rintro e w' ⟨rfl, q2_, rfl⟩))
            exact (HS.out.below (by repeat (first | exact Below.refl _ _ | apply pw_below_drewN))).ret GD.out rfl rfl rfl (.inl ⟨rfl, rfl⟩)
        · rw [if_neg hneg] at H
          have dn : decide (n < 0) = false := decide_eq_false hneg
          by_cases hn2 : n ≤ 4294967296
          case neg => rw [if_neg hn2] at H; cases H
          rw [if_pos hn2] at H
          have HH := Aside0.mk H
          clear H
          by_cases he1 : i + 1 = a0.size
          · have b1 : (((i : Int) + 1) == (a0.size : Int)) = true := by simp; omega
            clear he
            go_wp2_with (go_at_call 16; refine (strings_IndexByte.calls _ _ n _ hIB).mono ?_; rintro e w' ⟨rfl, q2_, rfl⟩)
            go_roundg g
            case measure => omega
            case rel => exact ⟨out, i + n.toNat, by congr 1; push_cast; omega, HH, ⟨HS.out.below (by repeat (first | exact Below.refl _ _ | apply pw_below_drewN))⟩⟩
          · have hl := he.resolve_left he1
            rw [hl] at hlv
            have b1 : (((i : Int) + 1) == (a0.size : Int)) = false := by simp; omega
            clear he
            go_wp2_with (first | (go_at_call 15; refine (speclex_letter.calls _ _ _ hlv).mono ?_; rintro e w' ⟨rfl, q_, rfl⟩) | (go_at_call 16; refine (strings_IndexByte.calls _ _ n _ hIB).mono ?_; rintro e w' ⟨rfl, q2_, rfl⟩))
            go_roundg g
            case measure => omega
            case rel => exact ⟨out, i + n.toNat, by congr 1; push_cast; omega, HH, ⟨HS.out.below (by repeat (first | exact Below.refl _ _ | apply pw_below_drewN))⟩⟩
      · rw [if_neg com] at H
        by_cases h7 : q = 7
        · subst h7
          rw [if_pos rfl] at H
          have HH := Aside0.mk H
          clear H com hcm
          go_wp2
          go_roundg g
          case measure => omega
          case rel => exact ⟨out, i + 1, by congr 1, HH, HS⟩
        rw [if_neg h7] at H
        have b7 : ((q : Int) == 7) = false := by simp; omega
        have alt : (((q : Int) == 8) = false) ∨ (((q : Int) == 8) = true ∧ (((i : Int) + 1) == (a0.size : Int)) = false ∧ letB d = true ∧ i + 1 < a0.size) := by
          have hf : (q == 8 && (decide (i + 1 = a0.size) || !letB d)) = false := by rw [← hcm]; simpa using com
          by_cases h8 : q = 8
          · subst h8
            have hne : ¬ i + 1 = a0.size := by intro h; simp [h] at hf
            refine .inr ⟨rfl, ?_, ?_, by omega⟩
            · simp; omega
            · cases hl : letB d with
              | true => rfl
              | false => rw [hl] at hf; simp at hf
          · exact .inl (by simp; omega)
        clear com hcm
        obtain ⟨Ao, co, hv5⟩ := Kd.R_slice HS.out.R
        subst hv5
        by_cases h16 : out.length = 16384
        · rw [if_pos h16] at H
          simp only [Option.some.injEq, Prod.mk.injEq] at H
          obtain ⟨rfl, rfl, rfl, rfl⟩ := H
          have d16 : ((out.length : Int) == 16384) = true := by simp; omega
          obtain ⟨x0, x1, x2, ⟨hc0, hc1, hc2⟩, hf0, hf1, hf2⟩ := HS.out.dcell
          rcases alt with hb8 | ⟨hb8, he, hl, hlt2⟩
          · go_wp2
            exact HS.out.ret GD.out rfl rfl rfl (.inr ⟨rfl, rfl⟩)
          · rw [hl] at hlv
            go_wp2_with (go_at_call 15; refine (speclex_letter.calls _ _ _ hlv).mono ?_; rintro e w' ⟨rfl, q_, rfl⟩)
            exact (HS.out.below (by repeat (first | exact Below.refl _ _ | apply pw_below_drewN))).ret GD.out rfl rfl rfl (.inr ⟨rfl, rfl⟩)
        rw [if_neg h16] at H
        have d16 : ((out.length : Int) == 16384) = false := by simp; omega
        by_cases hln : out.length < 4294967296
        case neg => rw [if_neg hln] at H; cases H
        rw [if_pos hln] at H
        have HLN := Aside0.mk hln
        clear hln
        replace H := Option.bind_eq_some_iff.mp H
        obtain ⟨⟨t1, t2, t3, t4, t5⟩, A, H⟩ := H
        have HA := Aside0.mk A
        clear A
        dsimp only at H
        by_cases h5 : t5 = 0
        · rw [if_pos h5] at H
          have b5 : (t5 != 0) = false := bne_eq_false_iff_eq.mpr h5
          have b50 : (t5 == 0) = true := beq_iff_eq.mpr h5
          clear h5
          by_cases h4 : 0 ≤ t4 ∧ t4 ≤ 4294967296
          case neg => rw [if_neg h4] at H; cases H
          rw [if_pos h4] at H
          obtain ⟨h40, h41⟩ := h4
          have HH := Aside0.mk H
          clear H
          rcases alt with hb8 | ⟨hb8, he, hl, hlt2⟩
          · go_wp2_with (first | (go_at_call 17; refine (speclex_one.calls g _ _ t1 t2 t3 t4 t5 _ (HGW.out.below (by repeat (first | exact HS.out.B | apply pw_below_drewN))) HA.out).mono ?_; rintro e w9 ⟨rfl, hb⟩; have HS9 := Aside0.mk (HS.out.below (below_step (by repeat (first | exact Below.refl _ _ | apply pw_below_drewN)) hb)); clear hb) | ((with_reducible refine gate_dst (N := 9) rfl ?_); refine box_event ?hg (N := 9) ?hd (cs := #[.int .i64 0, .string (⟨#[]⟩ : ByteArray), .int .i64 0]) (t := 32) ?hr ?_; (case hd => rfl); (case hg => rfl); (case hr => first | (go_simp; done) | (go_simp; rfl)); intro gb hg w10 hbox hb; have BK := Aside0.mk hbox; have SB0 := Aside0.mk (SB.new HS9.out hg hb); clear hbox hb hg; have z0 : w10.cell? ⟨gb, 0, none⟩ = some (.int .i64 0) := (blk_cell BK.out 0).trans rfl; have z1 : w10.cell? ⟨gb, 1, none⟩ = some (.string (⟨#[]⟩ : ByteArray)) := (blk_cell BK.out 1).trans rfl; have z2 : w10.cell? ⟨gb, 2, none⟩ = some (.int .i64 0) := (blk_cell BK.out 2).trans rfl; have y0 := blk_frozen BK.out 0; have y1 := blk_frozen BK.out 1; have y2 := blk_frozen BK.out 2; obtain ⟨x0, x1, x2, ⟨hc0, hc1, hc2⟩, hf0, hf1, hf2⟩ := SB0.out.s.dcell; have nd1 := SB0.out.nd; have nd2 := SB0.out.nd.symm; have z2b : ((((w10.setCell ⟨gb, 0, none⟩ (.int .i64 t1)).setCell ⟨gb, 1, none⟩ (.string t2)).setCell ⟨gb, 2, none⟩ (.int .i64 t3)).setCell ⟨gb, 2, none⟩ (.int .i64 (i : Int))).cell? ⟨gb, 2, none⟩ = some (.int .i64 (i : Int)) := (blk_cell (cs := #[.int .i64 t1, .string t2, .int .i64 (i : Int)]) (blk_put (cs := #[.int .i64 t1, .string t2, .int .i64 t3]) (blk_put (cs := #[.int .i64 t1, .string t2, .int .i64 0]) (blk_put (cs := #[.int .i64 t1, .string (⟨#[]⟩ : ByteArray), .int .i64 0]) (blk_put (cs := #[.int .i64 0, .string (⟨#[]⟩ : ByteArray), .int .i64 0]) BK.out 0 _ rfl) 1 _ rfl) 2 _ rfl) 2 _ rfl) 2).trans rfl) | ((with_reducible refine gate_builtin (b := .append) (xs := #[.tmp 77, .tmp 79]) rfl ?_); at_builtin; refine Kd.R_append k32 (w0 := w) w.heap.size rfl (.tmp 77) (.tmp 79) 23 32 (.agg #[(.int .i64 0), (.string ⟨#[]⟩), (.int .i64 0)]) 32 rfl Tryd.underlying23 info32 rfl (by decide) (by omega) (.slice Ao out.length co) out (⟨t1, t2, (i : Int)⟩ : S32) [.int .i64 t1, .string t2, .int .i64 (i : Int)] (fun k_ => k_ ≠ gb) (fun _ => False) rfl (by first | (go_simp; done) | (go_simp; rfl)) ?aP (fun _ hk => hk.elim) ?aF ?aO ?aB ?aS ?aL ?_; (case aP => exact k32_mkM _ _ _ (⟨t1, t2, (i : Int)⟩ : S32)); (case aB => exact (by (repeat (first | apply below_alloc | apply pw_below_drewN)); exact ((((SB0.out.set 0 _).set 1 _).set 2 _).set 2 _).s.B)); (case aF => exact (fun k_ hk => Kd.freshB (g := gb) (o := .cells #[.int .i64 t1, .string t2, .int .i64 (i : Int)] 32 (0, 0)) (by (with_reducible repeat (first | refine blk_drewN ?_ _ | refine blk_drew ?_ | refine blk_alloc ?_ _)); exact blk_put (cs := #[.int .i64 t1, .string t2, .int .i64 t3]) (blk_put (cs := #[.int .i64 t1, .string t2, .int .i64 0]) (blk_put (cs := #[.int .i64 t1, .string (⟨#[]⟩ : ByteArray), .int .i64 0]) (blk_put (cs := #[.int .i64 0, .string (⟨#[]⟩ : ByteArray), .int .i64 0]) BK.out 0 _ rfl) 1 _ rfl) 2 _ rfl) 2 _ rfl) k_ hk)); (case aO => exact (by (with_reducible repeat (first | apply Kd.R_alloc | apply Kd.R_drewN | apply Kd.R_drew)); exact ((((SB0.out.set 0 _).set 1 _).set 2 _).set 2 _).r)); (case aS => exact (below_size (by (repeat (first | apply below_alloc | apply pw_below_drewN)); exact ((((SB0.out.set 0 _).set 1 _).set 2 _).set 2 _).s.B))); (case aL => have := HLN.out; omega); intro v' w12 ho hb hg hat; have HSN := Aside0.mk (SC.grown (SC.below ((((SB0.out.set 0 _).set 1 _).set 2 _).set 2 _).s (by repeat (first | exact Below.refl _ _ | apply below_alloc | apply pw_below_drewN))) hg hb (Kd.R_mono ho (fun _ _ => trivial))); clear ho hb hg hat))
            go_roundg g
            case measure => omega
            case rel => exact ⟨_, i + t4.toNat, by congr 1; push_cast; omega, HH, HSN⟩
          · rw [hl] at hlv
            go_wp2_with (first | (go_at_call 15; refine (speclex_letter.calls _ _ _ hlv).mono ?_; rintro e w' ⟨rfl, q_, rfl⟩) | (go_at_call 17; refine (speclex_one.calls g _ _ t1 t2 t3 t4 t5 _ (HGW.out.below (by repeat (first | exact HS.out.B | apply pw_below_drewN))) HA.out).mono ?_; rintro e w9 ⟨rfl, hb⟩; have HS9 := Aside0.mk (HS.out.below (below_step (by repeat (first | exact Below.refl _ _ | apply pw_below_drewN)) hb)); clear hb) | ((with_reducible refine gate_dst (N := 9) rfl ?_); refine box_event ?hg (N := 9) ?hd (cs := #[.int .i64 0, .string (⟨#[]⟩ : ByteArray), .int .i64 0]) (t := 32) ?hr ?_; (case hd => rfl); (case hg => rfl); (case hr => first | (go_simp; done) | (go_simp; rfl)); intro gb hg w10 hbox hb; have BK := Aside0.mk hbox; have SB0 := Aside0.mk (SB.new HS9.out hg hb); clear hbox hb hg; have z0 : w10.cell? ⟨gb, 0, none⟩ = some (.int .i64 0) := (blk_cell BK.out 0).trans rfl; have z1 : w10.cell? ⟨gb, 1, none⟩ = some (.string (⟨#[]⟩ : ByteArray)) := (blk_cell BK.out 1).trans rfl; have z2 : w10.cell? ⟨gb, 2, none⟩ = some (.int .i64 0) := (blk_cell BK.out 2).trans rfl; have y0 := blk_frozen BK.out 0; have y1 := blk_frozen BK.out 1; have y2 := blk_frozen BK.out 2; obtain ⟨x0, x1, x2, ⟨hc0, hc1, hc2⟩, hf0, hf1, hf2⟩ := SB0.out.s.dcell; have nd1 := SB0.out.nd; have nd2 := SB0.out.nd.symm; have z2b : ((((w10.setCell ⟨gb, 0, none⟩ (.int .i64 t1)).setCell ⟨gb, 1, none⟩ (.string t2)).setCell ⟨gb, 2, none⟩ (.int .i64 t3)).setCell ⟨gb, 2, none⟩ (.int .i64 (i : Int))).cell? ⟨gb, 2, none⟩ = some (.int .i64 (i : Int)) := (blk_cell (cs := #[.int .i64 t1, .string t2, .int .i64 (i : Int)]) (blk_put (cs := #[.int .i64 t1, .string t2, .int .i64 t3]) (blk_put (cs := #[.int .i64 t1, .string t2, .int .i64 0]) (blk_put (cs := #[.int .i64 t1, .string (⟨#[]⟩ : ByteArray), .int .i64 0]) (blk_put (cs := #[.int .i64 0, .string (⟨#[]⟩ : ByteArray), .int .i64 0]) BK.out 0 _ rfl) 1 _ rfl) 2 _ rfl) 2 _ rfl) 2).trans rfl) | ((with_reducible refine gate_builtin (b := .append) (xs := #[.tmp 77, .tmp 79]) rfl ?_); at_builtin; refine Kd.R_append k32 (w0 := w) w.heap.size rfl (.tmp 77) (.tmp 79) 23 32 (.agg #[(.int .i64 0), (.string ⟨#[]⟩), (.int .i64 0)]) 32 rfl Tryd.underlying23 info32 rfl (by decide) (by omega) (.slice Ao out.length co) out (⟨t1, t2, (i : Int)⟩ : S32) [.int .i64 t1, .string t2, .int .i64 (i : Int)] (fun k_ => k_ ≠ gb) (fun _ => False) rfl (by first | (go_simp; done) | (go_simp; rfl)) ?aP (fun _ hk => hk.elim) ?aF ?aO ?aB ?aS ?aL ?_; (case aP => exact k32_mkM _ _ _ (⟨t1, t2, (i : Int)⟩ : S32)); (case aB => exact (by (repeat (first | apply below_alloc | apply pw_below_drewN)); exact ((((SB0.out.set 0 _).set 1 _).set 2 _).set 2 _).s.B)); (case aF => exact (fun k_ hk => Kd.freshB (g := gb) (o := .cells #[.int .i64 t1, .string t2, .int .i64 (i : Int)] 32 (0, 0)) (by (with_reducible repeat (first | refine blk_drewN ?_ _ | refine blk_drew ?_ | refine blk_alloc ?_ _)); exact blk_put (cs := #[.int .i64 t1, .string t2, .int .i64 t3]) (blk_put (cs := #[.int .i64 t1, .string t2, .int .i64 0]) (blk_put (cs := #[.int .i64 t1, .string (⟨#[]⟩ : ByteArray), .int .i64 0]) (blk_put (cs := #[.int .i64 0, .string (⟨#[]⟩ : ByteArray), .int .i64 0]) BK.out 0 _ rfl) 1 _ rfl) 2 _ rfl) 2 _ rfl) k_ hk)); (case aO => exact (by (with_reducible repeat (first | apply Kd.R_alloc | apply Kd.R_drewN | apply Kd.R_drew)); exact ((((SB0.out.set 0 _).set 1 _).set 2 _).set 2 _).r)); (case aS => exact (below_size (by (repeat (first | apply below_alloc | apply pw_below_drewN)); exact ((((SB0.out.set 0 _).set 1 _).set 2 _).set 2 _).s.B))); (case aL => have := HLN.out; omega); intro v' w12 ho hb hg hat; have HSN := Aside0.mk (SC.grown (SC.below ((((SB0.out.set 0 _).set 1 _).set 2 _).set 2 _).s (by repeat (first | exact Below.refl _ _ | apply below_alloc | apply pw_below_drewN))) hg hb (Kd.R_mono ho (fun _ _ => trivial))); clear ho hb hg hat))
            go_roundg g
            case measure => omega
            case rel => exact ⟨_, i + t4.toNat, by congr 1; push_cast; omega, HH, HSN⟩
        · rw [if_neg h5] at H
          simp only [Option.some.injEq, Prod.mk.injEq] at H
          obtain ⟨rfl, rfl, rfl, rfl⟩ := H
          have b5 : (t5 != 0) = true := bne_iff_ne.mpr h5
          have b50 : (t5 == 0) = false := beq_eq_false_iff_ne.mpr h5
          rcases alt with hb8 | ⟨hb8, he, hl, hlt2⟩
          · go_wp2_with (first | (go_at_call 17; refine (speclex_one.calls g _ _ t1 t2 t3 t4 t5 _ (HGW.out.below (by repeat (first | exact HS.out.B | apply pw_below_drewN))) HA.out).mono ?_; rintro e w9 ⟨rfl, hb⟩; have HS9 := Aside0.mk (HS.out.below (below_step (by repeat (first | exact Below.refl _ _ | apply pw_below_drewN)) hb)); clear hb) | ((with_reducible refine gate_dst (N := 9) rfl ?_); refine box_event ?hg (N := 9) ?hd (cs := #[.int .i64 0, .string (⟨#[]⟩ : ByteArray), .int .i64 0]) (t := 32) ?hr ?_; (case hd => rfl); (case hg => rfl); (case hr => first | (go_simp; done) | (go_simp; rfl)); intro gb hg w10 hbox hb; have BK := Aside0.mk hbox; have SB0 := Aside0.mk (SB.new HS9.out hg hb); clear hbox hb hg; have z0 : w10.cell? ⟨gb, 0, none⟩ = some (.int .i64 0) := (blk_cell BK.out 0).trans rfl; have z1 : w10.cell? ⟨gb, 1, none⟩ = some (.string (⟨#[]⟩ : ByteArray)) := (blk_cell BK.out 1).trans rfl; have z2 : w10.cell? ⟨gb, 2, none⟩ = some (.int .i64 0) := (blk_cell BK.out 2).trans rfl; have y0 := blk_frozen BK.out 0; have y1 := blk_frozen BK.out 1; have y2 := blk_frozen BK.out 2; obtain ⟨x0, x1, x2, ⟨hc0, hc1, hc2⟩, hf0, hf1, hf2⟩ := SB0.out.s.dcell; have nd1 := SB0.out.nd; have nd2 := SB0.out.nd.symm))
            exact (((SB0.out.set 0 _).set 1 _).set 2 _).s.ret GD.out rfl rfl rfl (.inr ⟨rfl, rfl⟩)
          · rw [hl] at hlv
            go_wp2_with (first | (go_at_call 15; refine (speclex_letter.calls _ _ _ hlv).mono ?_; rintro e w' ⟨rfl, q_, rfl⟩) | (go_at_call 17; refine (speclex_one.calls g _ _ t1 t2 t3 t4 t5 _ (HGW.out.below (by repeat (first | exact HS.out.B | apply pw_below_drewN))) HA.out).mono ?_; rintro e w9 ⟨rfl, hb⟩; have HS9 := Aside0.mk (HS.out.below (below_step (by repeat (first | exact Below.refl _ _ | apply pw_below_drewN)) hb)); clear hb) | ((with_reducible refine gate_dst (N := 9) rfl ?_); refine box_event ?hg (N := 9) ?hd (cs := #[.int .i64 0, .string (⟨#[]⟩ : ByteArray), .int .i64 0]) (t := 32) ?hr ?_; (case hd => rfl); (case hg => rfl); (case hr => first | (go_simp; done) | (go_simp; rfl)); intro gb hg w10 hbox hb; have BK := Aside0.mk hbox; have SB0 := Aside0.mk (SB.new HS9.out hg hb); clear hbox hb hg; have z0 : w10.cell? ⟨gb, 0, none⟩ = some (.int .i64 0) := (blk_cell BK.out 0).trans rfl; have z1 : w10.cell? ⟨gb, 1, none⟩ = some (.string (⟨#[]⟩ : ByteArray)) := (blk_cell BK.out 1).trans rfl; have z2 : w10.cell? ⟨gb, 2, none⟩ = some (.int .i64 0) := (blk_cell BK.out 2).trans rfl; have y0 := blk_frozen BK.out 0; have y1 := blk_frozen BK.out 1; have y2 := blk_frozen BK.out 2; obtain ⟨x0, x1, x2, ⟨hc0, hc1, hc2⟩, hf0, hf1, hf2⟩ := SB0.out.s.dcell; have nd1 := SB0.out.nd; have nd2 := SB0.out.nd.symm))
            exact (((SB0.out.set 0 _).set 1 _).set 2 _).s.ret GD.out rfl rfl rfl (.inr ⟨rfl, rfl⟩)
end Go.Proofs.YthijdjpipjbkbaaDoor.H
end
section
namespace Go.Proofs.YthijdjpipjbkbaaDoor.H
open Go.RowKit Go.Proofs.YthijdjpipjbkbaaDoorW.PrintWords Go.Proofs.YthijdjpipjbkbaaDoorW.PrintLast Go.Proofs.YthijdjpipjbkbaaDoorW.PrintMore
attribute [local go_sem] max2_int min2_int max_two min_two max_three min_three max_four min_four
set_option linter.unusedVariables false
set_option linter.unusedSimpArgs false
theorem eqA32 (d : Nat) (w : World) (x0 y0 : Int) (x1 y1 : ByteArray) (x2 y2 : Int) :
    (Op.equalIn (d + 2) 32 (.agg #[.int .i64 x0, .string x1, .int .i64 x2]) (.agg #[.int .i64 y0, .string y1, .int .i64 y2])).run Tryd.prog w = .ok (x0 == y0 && (x1.toList == y1.toList && (x2 == y2))) w := by
  refine eqA_of Tryd.underlying32 (by kernel_rfl) ?_
  refine eqf_cons (by rfl) (by go_simp; rfl) (by go_simp; rfl) (by go_simp) ?_
  refine eqf_cons (by rfl) (by go_simp; rfl) (by go_simp; rfl) (by go_simp) ?_
  exact eqf_last (by rfl) (by go_simp; rfl) (by go_simp; rfl) (by go_simp)
attribute [local go_sem high] eqA26 eqA32
def arboristlaw11_knows.f (k : Nat)  : Option (Bool) := (speclex_Scan.f k (⟨#[101, 32, 61, 32, 101, 32, 34, 43, 34, 32, 101, 32, 35, 97, 100, 100, 32, 124, 32, 78, 59, 32, 35, 32, 97, 108, 108]⟩ : ByteArray)).bind fun bt120 => ((speclex_Scan.f k (⟨#[47, 97, 92, 47, 98, 47]⟩ : ByteArray)).bind fun bt127 => ((speclex_Scan.f k (⟨#[48, 49]⟩ : ByteArray)).bind fun bt134 => ((speclex_Scan.f k (⟨#[47, 97]⟩ : ByteArray)).bind fun bt141 => (if (bt120.2.1 == 0 && (bt120.2.2.1 == 0 && (bt120.2.2.2.toList == ([] : List UInt8)))) = true then (if (bt127.2.1 == 0 && (bt127.2.2.1 == 0 && (bt127.2.2.2.toList == ([] : List UInt8)))) = true then (if (bt134.2.1 == 14 && (bt134.2.2.1 == 0 && (bt134.2.2.2.toList == ([] : List UInt8)))) = true then (if (bt141.2.1 == 13 && (bt141.2.2.1 == 0 && (bt141.2.2.2.toList == ([] : List UInt8)))) = true then (if (bt120.1.length : Int) = 10 then (if 3 < (bt120.1.length : Int) then (if (((rd_T32 bt120.1 3).f0) == 2 && ((((rd_T32 bt120.1 3).f1).toList) == ([43] : List UInt8) && (((rd_T32 bt120.1 3).f2) == 6))) = true then (if 5 < (bt120.1.length : Int) then (if ((rd_T32 bt120.1 5).f1).toList = ([35] : List UInt8) then (if (bt127.1.length : Int) = 1 then (if 0 < (bt127.1.length : Int) then (if (((rd_T32 bt127.1 0).f0) == 3 && ((((rd_T32 bt127.1 0).f1).toList) == ([97, 92, 47, 98] : List UInt8) && (((rd_T32 bt127.1 0).f2) == 0))) = true then ((speclex_Show.f bt127.1).bind fun t151 => (some (t151.toList == ([47, 97, 92, 47, 98, 47] : List UInt8)))) else (none)) else (none)) else (none)) else (none)) else (none)) else (none)) else (none)) else (none)) else (none)) else (none)) else (none)) else (none)))))
theorem arboristlaw11_knows.mono : ∀ k, LeO (arboristlaw11_knows.f k ) (arboristlaw11_knows.f (k + 1) ) := by
  intro  k
  unfold arboristlaw11_knows.f
  repeat' first
      | (with_reducible exact speclex_Scan.mono _ _)
      | (with_reducible exact LeO.refl _)
      | (with_reducible exact LeO.none _)
      | (with_reducible refine LeO.ite ?_ ?_)
      | (with_reducible refine LeO.bind ?_ (fun _ => ?_))
      | exact speclex_Scan.mono _ _
      | exact LeO.none _
      | refine LeO.ite ?_ ?_
      | refine LeO.bind ?_ (fun _ => ?_)
theorem scan_up {k m : Nat} (h : k ≤ m) {s : ByteArray} {v : List (S32) × Int × Int × ByteArray} (hk : speclex_Scan.f k s = some v) : speclex_Scan.f m s = some v := by
  induction m with
  | zero => obtain rfl : k = 0 := by omega
            exact hk
  | succ m ih =>
    rcases Nat.lt_or_ge k (m + 1) with q | q
    · exact speclex_Scan.mono s m v (ih (by omega))
    · obtain rfl : k = m + 1 := by omega
      exact hk
theorem diag_of (s : ByteArray) (n : Int) (hv : (speclex_Scan.f 60 s).map (fun t => (t.2.1, t.2.2.1, t.2.2.2.data.toList)) = some (n, 0, [])) {k : Nat} {a : List (S32)} {b c : Int} {d : ByteArray} (h : speclex_Scan.f k s = some (a, b, c, d)) : b = n ∧ c = 0 ∧ d = ⟨#[]⟩ := by
  have e : speclex_Scan.f 60 s = some (a, b, c, d) := by
    obtain ⟨C, hC, _⟩ := Option.map_eq_some_iff.1 hv
    rcases Nat.le_total k 60 with q | q
    · exact scan_up q h
    · have := scan_up q hC
      rw [h] at this
      rw [this]; exact hC
  rw [e] at hv
  simp only [Option.map_some, Option.some.injEq, Prod.mk.injEq] at hv
  exact ⟨hv.1, hv.2.1, ba_ext hv.2.2⟩
set_option maxHeartbeats 8000000 in
set_option maxRecDepth 100000 in
theorem arboristlaw11_knows.calls (k : Nat)  (r : Bool) (w : World) (hgw : GW w) (h : arboristlaw11_knows.f k  = some r) :
    Calls Tryd.prog 8 #[] w fun e w' => e = .returned (.bool r) ∧ Below w.heap.size w w' := by
  have HGW := Aside0.mk hgw
  clear hgw
  have hu26 := Tryd.underlying26
  have hu32 := Tryd.underlying32
  have HB := Aside0.mk (Below.refl w.heap.size w)
  have H : ((speclex_Scan.f k (⟨#[101, 32, 61, 32, 101, 32, 34, 43, 34, 32, 101, 32, 35, 97, 100, 100, 32, 124, 32, 78, 59, 32, 35, 32, 97, 108, 108]⟩ : ByteArray)).bind fun bt120 => ((speclex_Scan.f k (⟨#[47, 97, 92, 47, 98, 47]⟩ : ByteArray)).bind fun bt127 => ((speclex_Scan.f k (⟨#[48, 49]⟩ : ByteArray)).bind fun bt134 => ((speclex_Scan.f k (⟨#[47, 97]⟩ : ByteArray)).bind fun bt141 => (if (bt120.2.1 == 0 && (bt120.2.2.1 == 0 && (bt120.2.2.2.toList == ([] : List UInt8)))) = true then (if (bt127.2.1 == 0 && (bt127.2.2.1 == 0 && (bt127.2.2.2.toList == ([] : List UInt8)))) = true then (if (bt134.2.1 == 14 && (bt134.2.2.1 == 0 && (bt134.2.2.2.toList == ([] : List UInt8)))) = true then (if (bt141.2.1 == 13 && (bt141.2.2.1 == 0 && (bt141.2.2.2.toList == ([] : List UInt8)))) = true then (if (bt120.1.length : Int) = 10 then (if 3 < (bt120.1.length : Int) then (if (((rd_T32 bt120.1 3).f0) == 2 && ((((rd_T32 bt120.1 3).f1).toList) == ([43] : List UInt8) && (((rd_T32 bt120.1 3).f2) == 6))) = true then (if 5 < (bt120.1.length : Int) then (if ((rd_T32 bt120.1 5).f1).toList = ([35] : List UInt8) then (if (bt127.1.length : Int) = 1 then (if 0 < (bt127.1.length : Int) then (if (((rd_T32 bt127.1 0).f0) == 3 && ((((rd_T32 bt127.1 0).f1).toList) == ([97, 92, 47, 98] : List UInt8) && (((rd_T32 bt127.1 0).f2) == 0))) = true then ((speclex_Show.f bt127.1).bind fun t151 => (some (t151.toList == ([47, 97, 92, 47, 98, 47] : List UInt8)))) else (none)) else (none)) else (none)) else (none)) else (none)) else (none)) else (none)) else (none)) else (none)) else (none)) else (none)) else (none)))))) = some r := h
  clear h
  replace H := Option.bind_eq_some_iff.mp H
  obtain ⟨⟨t120, t123, t124, t125⟩, A10, H⟩ := H
  replace H : ((speclex_Scan.f k (⟨#[47, 97, 92, 47, 98, 47]⟩ : ByteArray)).bind fun bt127 => ((speclex_Scan.f k (⟨#[48, 49]⟩ : ByteArray)).bind fun bt134 => ((speclex_Scan.f k (⟨#[47, 97]⟩ : ByteArray)).bind fun bt141 => (if (t123 == 0 && (t124 == 0 && (t125.toList == ([] : List UInt8)))) = true then (if (bt127.2.1 == 0 && (bt127.2.2.1 == 0 && (bt127.2.2.2.toList == ([] : List UInt8)))) = true then (if (bt134.2.1 == 14 && (bt134.2.2.1 == 0 && (bt134.2.2.2.toList == ([] : List UInt8)))) = true then (if (bt141.2.1 == 13 && (bt141.2.2.1 == 0 && (bt141.2.2.2.toList == ([] : List UInt8)))) = true then (if (t120.length : Int) = 10 then (if 3 < (t120.length : Int) then (if (((rd_T32 t120 3).f0) == 2 && ((((rd_T32 t120 3).f1).toList) == ([43] : List UInt8) && (((rd_T32 t120 3).f2) == 6))) = true then (if 5 < (t120.length : Int) then (if ((rd_T32 t120 5).f1).toList = ([35] : List UInt8) then (if (bt127.1.length : Int) = 1 then (if 0 < (bt127.1.length : Int) then (if (((rd_T32 bt127.1 0).f0) == 3 && ((((rd_T32 bt127.1 0).f1).toList) == ([97, 92, 47, 98] : List UInt8) && (((rd_T32 bt127.1 0).f2) == 0))) = true then ((speclex_Show.f bt127.1).bind fun t151 => (some (t151.toList == ([47, 97, 92, 47, 98, 47] : List UInt8)))) else (none)) else (none)) else (none)) else (none)) else (none)) else (none)) else (none)) else (none)) else (none)) else (none)) else (none)) else (none))))) = some r := H
  have A1 := Aside0.mk A10
  clear A10
  replace H := Option.bind_eq_some_iff.mp H
  obtain ⟨⟨t127, t130, t131, t132⟩, A20, H⟩ := H
  replace H : ((speclex_Scan.f k (⟨#[48, 49]⟩ : ByteArray)).bind fun bt134 => ((speclex_Scan.f k (⟨#[47, 97]⟩ : ByteArray)).bind fun bt141 => (if (t123 == 0 && (t124 == 0 && (t125.toList == ([] : List UInt8)))) = true then (if (t130 == 0 && (t131 == 0 && (t132.toList == ([] : List UInt8)))) = true then (if (bt134.2.1 == 14 && (bt134.2.2.1 == 0 && (bt134.2.2.2.toList == ([] : List UInt8)))) = true then (if (bt141.2.1 == 13 && (bt141.2.2.1 == 0 && (bt141.2.2.2.toList == ([] : List UInt8)))) = true then (if (t120.length : Int) = 10 then (if 3 < (t120.length : Int) then (if (((rd_T32 t120 3).f0) == 2 && ((((rd_T32 t120 3).f1).toList) == ([43] : List UInt8) && (((rd_T32 t120 3).f2) == 6))) = true then (if 5 < (t120.length : Int) then (if ((rd_T32 t120 5).f1).toList = ([35] : List UInt8) then (if (t127.length : Int) = 1 then (if 0 < (t127.length : Int) then (if (((rd_T32 t127 0).f0) == 3 && ((((rd_T32 t127 0).f1).toList) == ([97, 92, 47, 98] : List UInt8) && (((rd_T32 t127 0).f2) == 0))) = true then ((speclex_Show.f t127).bind fun t151 => (some (t151.toList == ([47, 97, 92, 47, 98, 47] : List UInt8)))) else (none)) else (none)) else (none)) else (none)) else (none)) else (none)) else (none)) else (none)) else (none)) else (none)) else (none)) else (none)))) = some r := H
  have A2 := Aside0.mk A20
  clear A20
  replace H := Option.bind_eq_some_iff.mp H
  obtain ⟨⟨t134, t137, t138, t139⟩, A30, H⟩ := H
  replace H : ((speclex_Scan.f k (⟨#[47, 97]⟩ : ByteArray)).bind fun bt141 => (if (t123 == 0 && (t124 == 0 && (t125.toList == ([] : List UInt8)))) = true then (if (t130 == 0 && (t131 == 0 && (t132.toList == ([] : List UInt8)))) = true then (if (t137 == 14 && (t138 == 0 && (t139.toList == ([] : List UInt8)))) = true then (if (bt141.2.1 == 13 && (bt141.2.2.1 == 0 && (bt141.2.2.2.toList == ([] : List UInt8)))) = true then (if (t120.length : Int) = 10 then (if 3 < (t120.length : Int) then (if (((rd_T32 t120 3).f0) == 2 && ((((rd_T32 t120 3).f1).toList) == ([43] : List UInt8) && (((rd_T32 t120 3).f2) == 6))) = true then (if 5 < (t120.length : Int) then (if ((rd_T32 t120 5).f1).toList = ([35] : List UInt8) then (if (t127.length : Int) = 1 then (if 0 < (t127.length : Int) then (if (((rd_T32 t127 0).f0) == 3 && ((((rd_T32 t127 0).f1).toList) == ([97, 92, 47, 98] : List UInt8) && (((rd_T32 t127 0).f2) == 0))) = true then ((speclex_Show.f t127).bind fun t151 => (some (t151.toList == ([47, 97, 92, 47, 98, 47] : List UInt8)))) else (none)) else (none)) else (none)) else (none)) else (none)) else (none)) else (none)) else (none)) else (none)) else (none)) else (none)) else (none))) = some r := H
  have A3 := Aside0.mk A30
  clear A30
  replace H := Option.bind_eq_some_iff.mp H
  obtain ⟨⟨t141, t144, t145, t146⟩, A40, H⟩ := H
  replace H : (if (t123 == 0 && (t124 == 0 && (t125.toList == ([] : List UInt8)))) = true then (if (t130 == 0 && (t131 == 0 && (t132.toList == ([] : List UInt8)))) = true then (if (t137 == 14 && (t138 == 0 && (t139.toList == ([] : List UInt8)))) = true then (if (t144 == 13 && (t145 == 0 && (t146.toList == ([] : List UInt8)))) = true then (if (t120.length : Int) = 10 then (if 3 < (t120.length : Int) then (if (((rd_T32 t120 3).f0) == 2 && ((((rd_T32 t120 3).f1).toList) == ([43] : List UInt8) && (((rd_T32 t120 3).f2) == 6))) = true then (if 5 < (t120.length : Int) then (if ((rd_T32 t120 5).f1).toList = ([35] : List UInt8) then (if (t127.length : Int) = 1 then (if 0 < (t127.length : Int) then (if (((rd_T32 t127 0).f0) == 3 && ((((rd_T32 t127 0).f1).toList) == ([97, 92, 47, 98] : List UInt8) && (((rd_T32 t127 0).f2) == 0))) = true then ((speclex_Show.f t127).bind fun t151 => (some (t151.toList == ([47, 97, 92, 47, 98, 47] : List UInt8)))) else (none)) else (none)) else (none)) else (none)) else (none)) else (none)) else (none)) else (none)) else (none)) else (none)) else (none)) else (none)) = some r := H
  have A4 := Aside0.mk A40
  clear A40
  obtain ⟨rfl, rfl, rfl⟩ := diag_of (⟨#[101, 32, 61, 32, 101, 32, 34, 43, 34, 32, 101, 32, 35, 97, 100, 100, 32, 124, 32, 78, 59, 32, 35, 32, 97, 108, 108]⟩ : ByteArray) 0 (by kernel_rfl) A1.out
  obtain ⟨rfl, rfl, rfl⟩ := diag_of (⟨#[47, 97, 92, 47, 98, 47]⟩ : ByteArray) 0 (by kernel_rfl) A2.out
  obtain ⟨rfl, rfl, rfl⟩ := diag_of (⟨#[48, 49]⟩ : ByteArray) 14 (by kernel_rfl) A3.out
  obtain ⟨rfl, rfl, rfl⟩ := diag_of (⟨#[47, 97]⟩ : ByteArray) 13 (by kernel_rfl) A4.out
  by_cases c5 : ((0 : Int) == 0 && ((0 : Int) == 0 && ((⟨#[]⟩ : ByteArray).toList == ([] : List UInt8)))) = true
  · rw [if_pos c5] at H
    have c5b0 : ((0 : Int) == 0 && ((0 : Int) == 0 && ((⟨#[]⟩ : ByteArray).toList == ([] : List UInt8)))) = true := c5
    clear c5
    by_cases c6 : ((0 : Int) == 0 && ((0 : Int) == 0 && ((⟨#[]⟩ : ByteArray).toList == ([] : List UInt8)))) = true
    · rw [if_pos c6] at H
      have c6b0 : ((0 : Int) == 0 && ((0 : Int) == 0 && ((⟨#[]⟩ : ByteArray).toList == ([] : List UInt8)))) = true := c6
      clear c6
      by_cases c7 : ((14 : Int) == 14 && ((0 : Int) == 0 && ((⟨#[]⟩ : ByteArray).toList == ([] : List UInt8)))) = true
      · rw [if_pos c7] at H
        have c7b0 : ((14 : Int) == 14 && ((0 : Int) == 0 && ((⟨#[]⟩ : ByteArray).toList == ([] : List UInt8)))) = true := c7
        clear c7
        by_cases c8 : ((13 : Int) == 13 && ((0 : Int) == 0 && ((⟨#[]⟩ : ByteArray).toList == ([] : List UInt8)))) = true
        · rw [if_pos c8] at H
          have c8b0 : ((13 : Int) == 13 && ((0 : Int) == 0 && ((⟨#[]⟩ : ByteArray).toList == ([] : List UInt8)))) = true := c8
          clear c8
          by_cases c9 : (t120.length : Int) = 10
          · rw [if_pos c9] at H
            have c9b0 : ((t120.length : Int) == 10) = true := beq_iff_eq.mpr c9
            have c9b1 : ((t120.length : Int) != 10) = false := bne_eq_false_iff_eq.mpr c9
            clear c9
            by_cases c10 : 3 < (t120.length : Int)
            · rw [if_pos c10] at H
              have c10b0 : decide (3 < (t120.length : Int)) = true := decide_eq_true c10
              have c10b1 : decide (3 < t120.length) = true := decide_eq_true (by omega)
              clear c10
              by_cases c11 : (((rd_T32 t120 3).f0) == 2 && ((((rd_T32 t120 3).f1).toList) == ([43] : List UInt8) && (((rd_T32 t120 3).f2) == 6))) = true
              · rw [if_pos c11] at H
                have c11b0 : (((rd_T32 t120 3).f0) == 2 && ((((rd_T32 t120 3).f1).toList) == ([43] : List UInt8) && (((rd_T32 t120 3).f2) == 6))) = true := c11
                (try (have c11b1 : decide (((rd_T32 t120 3).f0) = 2 && ((((rd_T32 t120 3).f1).toList) == ([43] : List UInt8) && (((rd_T32 t120 3).f2) == 6))) = true := by simpa using c11))
                (try (have c11b2 : (((rd_T32 t120 3).f0) == 2 && ((((rd_T32 t120 3).f1).toList) == ([43] : List UInt8) && (((rd_T32 t120 3).f2) == 6))) = true := by simpa using c11))
                clear c11
                by_cases c12 : 5 < (t120.length : Int)
                · rw [if_pos c12] at H
                  have c12b0 : decide (5 < (t120.length : Int)) = true := decide_eq_true c12
                  have c12b1 : decide (5 < t120.length) = true := decide_eq_true (by omega)
                  clear c12
                  by_cases c13 : ((rd_T32 t120 5).f1).toList = ([35] : List UInt8)
                  · rw [if_pos c13] at H
                    have c13b0 : (((rd_T32 t120 5).f1).toList == ([35] : List UInt8)) = true := beq_iff_eq.mpr c13
                    have c13b1 : (((rd_T32 t120 5).f1).toList != ([35] : List UInt8)) = false := bne_eq_false_iff_eq.mpr c13
                    clear c13
                    by_cases c14 : (t127.length : Int) = 1
                    · rw [if_pos c14] at H
                      have c14b0 : ((t127.length : Int) == 1) = true := beq_iff_eq.mpr c14
                      have c14b1 : ((t127.length : Int) != 1) = false := bne_eq_false_iff_eq.mpr c14
                      clear c14
                      by_cases c15 : 0 < (t127.length : Int)
                      · rw [if_pos c15] at H
                        have c15b0 : decide (0 < (t127.length : Int)) = true := decide_eq_true c15
                        have c15b1 : decide (0 < t127.length) = true := decide_eq_true (by omega)
                        clear c15
                        by_cases c16 : (((rd_T32 t127 0).f0) == 3 && ((((rd_T32 t127 0).f1).toList) == ([97, 92, 47, 98] : List UInt8) && (((rd_T32 t127 0).f2) == 0))) = true
                        · rw [if_pos c16] at H
                          have c16b0 : (((rd_T32 t127 0).f0) == 3 && ((((rd_T32 t127 0).f1).toList) == ([97, 92, 47, 98] : List UInt8) && (((rd_T32 t127 0).f2) == 0))) = true := c16
                          (try (have c16b1 : decide (((rd_T32 t127 0).f0) = 3 && ((((rd_T32 t127 0).f1).toList) == ([97, 92, 47, 98] : List UInt8) && (((rd_T32 t127 0).f2) == 0))) = true := by simpa using c16))
                          (try (have c16b2 : (((rd_T32 t127 0).f0) == 3 && ((((rd_T32 t127 0).f1).toList) == ([97, 92, 47, 98] : List UInt8) && (((rd_T32 t127 0).f2) == 0))) = true := by simpa using c16))
                          clear c16
                          replace H := Option.bind_eq_some_iff.mp H
                          obtain ⟨t151, A170, H⟩ := H
                          replace H : (some (t151.toList == ([47, 97, 92, 47, 98, 47] : List UInt8))) = some r := H
                          have A17 := Aside0.mk A170
                          clear A170
                          obtain rfl := Option.some.inj H
                          go_enter Tryd.func8, Tryd.ntmps8
                          go_wp2_with (first | ((with_reducible refine gate_callee (f := 9) rfl ?_); refine goesL_ (some 10) rfl rfl Tryd.func9 (by kernel_rfl) rfl #[.string (⟨#[101, 32, 61, 32, 101, 32, 34, 43, 34, 32, 101, 32, 35, 97, 100, 100, 32, 124, 32, 78, 59, 32, 35, 32, 97, 108, 108]⟩ : ByteArray)] rfl (by (try simp only [List.map_toArray, List.map_cons, List.map_nil]); first | done | rfl | (simp only [List.length_drop, List.length_take]; rfl)) ?_; (with_reducible refine (speclex_Scan.calls k (⟨#[101, 32, 61, 32, 101, 32, 34, 43, 34, 32, 101, 32, 35, 97, 100, 100, 32, 124, 32, 78, 59, 32, 35, 32, 97, 108, 108]⟩ : ByteArray) t120 (0 : Int) (0 : Int) (⟨#[]⟩ : ByteArray) _ ?side1 A1.out).mono ?_); (case side1 => exact GW.below HGW.out (by repeat (first | (with_reducible first | exact HB.out | apply below_alloc | apply pw_below_drewN | apply below_drew1) | exact HB.out))); rintro e w18 ⟨v121, rfl, ho0, hb⟩; refine ⟨_, rfl, ?_⟩; have n0_ := Aside0.mk (Kd.R_lower ho0 (below_size (by repeat (first | (with_reducible first | exact HB.out | apply below_alloc | apply pw_below_drewN | apply below_drew1) | exact HB.out)))); have n1_ := Aside0.mk (below_step (by repeat (first | (with_reducible first | exact HB.out | apply below_alloc | apply pw_below_drewN | apply below_drew1) | exact HB.out)) hb); clear HB; have HO122 := n0_; have HB := n1_; clear n0_ n1_; (try clear hb); (try clear hb2); (try clear hk); (try clear hi); (try clear ho0)) | ((with_reducible refine gate_dst (N := 2) rfl ?_); (try (refine gate_guard (by rfl) ?_; dsimp only)); refine box_event ?hg (N := 2) ?hd (cs := #[.int .i64 0, .int .i64 0, .string (⟨#[]⟩ : ByteArray)]) (t := 26) ?hr ?_; (case hd => rfl); (case hg => rfl); (case hr => first | (go_simp; done) | (go_simp; rfl)); intro gb126 hg w19 hbox hb; have n0_ := Aside0.mk (Kd.R_below (by (with_reducible repeat (first | apply Kd.R_alloc | apply Kd.R_drewN | apply Kd.R_drew)); exact HO122.out) hb); have n1_ := Aside0.mk (below_step (by repeat (first | (with_reducible first | exact HB.out | apply below_alloc | apply pw_below_drewN | apply below_drew1) | exact HB.out)) hb); have n2_ := Aside0.mk (hbox); have n3_ := Aside0.mk ((by rw [hg]; exact (below_size (by repeat (first | (with_reducible first | exact HB.out | apply below_alloc | apply pw_below_drewN | apply below_drew1) | exact HB.out))) : w.heap.size ≤ gb126)); have n4_ := Aside0.mk ((by rw [hg]; exact (below_size (by repeat (first | (with_reducible first | exact HB.out | apply below_alloc | apply pw_below_drewN | apply below_drew1) | exact HB.out))) : w.heap.size ≤ gb126)); clear HO122; clear HB; have HO122 := n0_; have HB := n1_; have BK126 := n2_; have GW126 := n3_; have GE126 := n4_; clear n0_ n1_ n2_ n3_ n4_; clear hb hbox hg; have hcz20_0 : w19.cell? ⟨gb126, 0, none⟩ = some (.int .i64 0) := (blk_cell BK126.out 0).trans rfl; have hcz20_1 : w19.cell? ⟨gb126, 1, none⟩ = some (.int .i64 0) := (blk_cell BK126.out 1).trans rfl; have hcz20_2 : w19.cell? ⟨gb126, 2, none⟩ = some (.string (⟨#[]⟩ : ByteArray)) := (blk_cell BK126.out 2).trans rfl; have hfz20_0 := blk_frozen BK126.out 0; have hfz20_1 := blk_frozen BK126.out 1; have hfz20_2 := blk_frozen BK126.out 2) | ((with_reducible refine gate_callee (f := 9) rfl ?_); refine goesL_ (some 14) rfl rfl Tryd.func9 (by kernel_rfl) rfl #[.string (⟨#[47, 97, 92, 47, 98, 47]⟩ : ByteArray)] rfl (by (try simp only [List.map_toArray, List.map_cons, List.map_nil]); first | done | rfl | (simp only [List.length_drop, List.length_take]; rfl)) ?_; (with_reducible refine (speclex_Scan.calls k (⟨#[47, 97, 92, 47, 98, 47]⟩ : ByteArray) t127 (0 : Int) (0 : Int) (⟨#[]⟩ : ByteArray) _ ?side1 A2.out).mono ?_); (case side1 => exact GW.below HGW.out (by repeat (first | (with_reducible first | exact HB.out | apply below_alloc | apply pw_below_drewN | apply below_drew1 | refine below_set ?_ GE126.out) | exact HB.out))); rintro e w21 ⟨v128, rfl, ho0, hb⟩; refine ⟨_, rfl, ?_⟩; have n0_ := Aside0.mk (Kd.R_elder' (by (with_reducible repeat (first | apply Kd.R_alloc | apply Kd.R_drewN | apply Kd.R_drew)); exact (Kd.R_mono (Kd.R_far (p := ⟨gb126, 2, none⟩) (Kd.R_far (p := ⟨gb126, 1, none⟩) (Kd.R_far (p := ⟨gb126, 0, none⟩) (Kd.R_types HO122.out BK126.out (by decide)) (fun _ hk => hk.2) (.int .i64 (0 : Int))) (fun _ hk => hk.2) (.int .i64 (0 : Int))) (fun _ hk => hk.2) (.string (⟨#[]⟩ : ByteArray))) (fun _ h_ => h_.1))) (Kd.R_base ho0) hb); have n1_ := Aside0.mk (Kd.R_lower (Kd.R_new' ho0 (Kd.R_lt (by (with_reducible repeat (first | apply Kd.R_alloc | apply Kd.R_drewN | apply Kd.R_drew)); exact (Kd.R_mono (Kd.R_far (p := ⟨gb126, 2, none⟩) (Kd.R_far (p := ⟨gb126, 1, none⟩) (Kd.R_far (p := ⟨gb126, 0, none⟩) (Kd.R_types HO122.out BK126.out (by decide)) (fun _ hk => hk.2) (.int .i64 (0 : Int))) (fun _ hk => hk.2) (.int .i64 (0 : Int))) (fun _ hk => hk.2) (.string (⟨#[]⟩ : ByteArray))) (fun _ h_ => h_.1))))) (below_size (by repeat (first | (with_reducible first | exact HB.out | apply below_alloc | apply pw_below_drewN | apply below_drew1 | refine below_set ?_ GE126.out) | exact HB.out)))); have n2_ := Aside0.mk (blk_below (g := gb126) (o := .cells #[.int .i64 (0 : Int), .int .i64 (0 : Int), .string (⟨#[]⟩ : ByteArray)] 26 (0, 0)) (by (with_reducible repeat (first | refine blk_drewN ?_ _ | refine blk_drew ?_ | refine blk_alloc ?_ _)); refine blk_put (cs := #[.int .i64 (0 : Int), .int .i64 (0 : Int), .string (⟨#[]⟩ : ByteArray)]) ?_ 2 _ rfl; (with_reducible repeat (first | refine blk_drewN ?_ _ | refine blk_drew ?_ | refine blk_alloc ?_ _)); refine blk_put (cs := #[.int .i64 (0 : Int), .int .i64 0, .string (⟨#[]⟩ : ByteArray)]) ?_ 1 _ rfl; (with_reducible repeat (first | refine blk_drewN ?_ _ | refine blk_drew ?_ | refine blk_alloc ?_ _)); refine blk_put (cs := #[.int .i64 0, .int .i64 0, .string (⟨#[]⟩ : ByteArray)]) ?_ 0 _ rfl; (with_reducible repeat (first | refine blk_drewN ?_ _ | refine blk_drew ?_ | refine blk_alloc ?_ _)); exact BK126.out) hb); have n3_ := Aside0.mk (below_step (by repeat (first | (with_reducible first | exact HB.out | apply below_alloc | apply pw_below_drewN | apply below_drew1 | refine below_set ?_ GE126.out) | exact HB.out)) hb); clear HO122; clear BK126; clear HB; have HO122 := n0_; have HO129 := n1_; have BK126 := n2_; have HB := n3_; clear n0_ n1_ n2_ n3_; (try clear hb); (try clear hb2); (try clear hk); (try clear hi); (try clear ho0)) | ((with_reducible refine gate_dst (N := 4) rfl ?_); (try (refine gate_guard (by rfl) ?_; dsimp only)); refine box_event ?hg (N := 4) ?hd (cs := #[.int .i64 0, .int .i64 0, .string (⟨#[]⟩ : ByteArray)]) (t := 26) ?hr ?_; (case hd => rfl); (case hg => rfl); (case hr => first | (go_simp; done) | (go_simp; rfl)); intro gb133 hg w22 hbox hb; have n0_ := Aside0.mk (Kd.R_below (by (with_reducible repeat (first | apply Kd.R_alloc | apply Kd.R_drewN | apply Kd.R_drew)); exact HO122.out) hb); have n1_ := Aside0.mk (Kd.R_below (by (with_reducible repeat (first | apply Kd.R_alloc | apply Kd.R_drewN | apply Kd.R_drew)); exact HO129.out) hb); have n2_ := Aside0.mk (blk_below (g := gb126) (o := .cells #[.int .i64 (0 : Int), .int .i64 (0 : Int), .string (⟨#[]⟩ : ByteArray)] 26 (0, 0)) (by (with_reducible repeat (first | refine blk_drewN ?_ _ | refine blk_drew ?_ | refine blk_alloc ?_ _)); exact BK126.out) hb); have n3_ := Aside0.mk (below_step (by repeat (first | (with_reducible first | exact HB.out | apply below_alloc | apply pw_below_drewN | apply below_drew1 | refine below_set ?_ GE126.out) | exact HB.out)) hb); have n4_ := Aside0.mk (hbox); have n5_ := Aside0.mk ((by rw [hg]; exact (below_size (by repeat (first | (with_reducible first | exact HB.out | apply below_alloc | apply pw_below_drewN | apply below_drew1 | refine below_set ?_ GE126.out) | exact HB.out))) : w.heap.size ≤ gb133)); have n6_ := Aside0.mk ((by rw [hg]; exact (below_size (by repeat (first | (with_reducible first | exact HB.out | apply below_alloc | apply pw_below_drewN | apply below_drew1 | refine below_set ?_ GE126.out) | exact HB.out))) : w.heap.size ≤ gb133)); have n7_ := Aside0.mk ((by rw [hg]; exact Nat.ne_of_lt (blk_lt (g := gb126) (o := .cells #[.int .i64 (0 : Int), .int .i64 (0 : Int), .string (⟨#[]⟩ : ByteArray)] 26 (0, 0)) (by (with_reducible repeat (first | refine blk_drewN ?_ _ | refine blk_drew ?_ | refine blk_alloc ?_ _)); exact BK126.out)) : gb126 ≠ gb133)); have n8_ := Aside0.mk ((by rw [hg]; exact Nat.ne_of_gt (blk_lt (g := gb126) (o := .cells #[.int .i64 (0 : Int), .int .i64 (0 : Int), .string (⟨#[]⟩ : ByteArray)] 26 (0, 0)) (by (with_reducible repeat (first | refine blk_drewN ?_ _ | refine blk_drew ?_ | refine blk_alloc ?_ _)); exact BK126.out)) : gb133 ≠ gb126)); clear HO122; clear HO129; clear BK126; clear HB; have HO122 := n0_; have HO129 := n1_; have BK126 := n2_; have HB := n3_; have BK133 := n4_; have GW133 := n5_; have GE133 := n6_; have NB126_133 := n7_; have NB133_126 := n8_; clear n0_ n1_ n2_ n3_ n4_ n5_ n6_ n7_ n8_; clear hb hbox hg; have hnb23 := NB133_126.out; have hnc23 := NB126_133.out; have hcz24_0 : w22.cell? ⟨gb133, 0, none⟩ = some (.int .i64 0) := (blk_cell BK133.out 0).trans rfl; have hcz24_1 : w22.cell? ⟨gb133, 1, none⟩ = some (.int .i64 0) := (blk_cell BK133.out 1).trans rfl; have hcz24_2 : w22.cell? ⟨gb133, 2, none⟩ = some (.string (⟨#[]⟩ : ByteArray)) := (blk_cell BK133.out 2).trans rfl; have hfz24_0 := blk_frozen BK133.out 0; have hfz24_1 := blk_frozen BK133.out 1; have hfz24_2 := blk_frozen BK133.out 2) | ((with_reducible refine gate_callee (f := 9) rfl ?_); refine goesL_ (some 18) rfl rfl Tryd.func9 (by kernel_rfl) rfl #[.string (⟨#[48, 49]⟩ : ByteArray)] rfl (by (try simp only [List.map_toArray, List.map_cons, List.map_nil]); first | done | rfl | (simp only [List.length_drop, List.length_take]; rfl)) ?_; (with_reducible refine (speclex_Scan.calls k (⟨#[48, 49]⟩ : ByteArray) t134 (14 : Int) (0 : Int) (⟨#[]⟩ : ByteArray) _ ?side1 A3.out).mono ?_); (case side1 => exact GW.below HGW.out (by repeat (first | (with_reducible first | exact HB.out | apply below_alloc | apply pw_below_drewN | apply below_drew1 | refine below_set ?_ GE126.out | refine below_set ?_ GE133.out) | exact HB.out))); rintro e w25 ⟨v135, rfl, ho0, hb⟩; refine ⟨_, rfl, ?_⟩; have n0_ := Aside0.mk (Kd.R_elder' (by (with_reducible repeat (first | apply Kd.R_alloc | apply Kd.R_drewN | apply Kd.R_drew)); exact (Kd.R_mono (Kd.R_far (p := ⟨gb133, 2, none⟩) (Kd.R_far (p := ⟨gb133, 1, none⟩) (Kd.R_far (p := ⟨gb133, 0, none⟩) (Kd.R_types HO122.out BK133.out (by decide)) (fun _ hk => hk.2) (.int .i64 (0 : Int))) (fun _ hk => hk.2) (.int .i64 (0 : Int))) (fun _ hk => hk.2) (.string (⟨#[]⟩ : ByteArray))) (fun _ h_ => h_.1))) (Kd.R_base ho0) hb); have n1_ := Aside0.mk (Kd.R_elder' (by (with_reducible repeat (first | apply Kd.R_alloc | apply Kd.R_drewN | apply Kd.R_drew)); exact (Kd.R_mono (Kd.R_far (p := ⟨gb133, 2, none⟩) (Kd.R_far (p := ⟨gb133, 1, none⟩) (Kd.R_far (p := ⟨gb133, 0, none⟩) (Kd.R_types HO129.out BK133.out (by decide)) (fun _ hk => hk.2) (.int .i64 (0 : Int))) (fun _ hk => hk.2) (.int .i64 (0 : Int))) (fun _ hk => hk.2) (.string (⟨#[]⟩ : ByteArray))) (fun _ h_ => h_.1))) (Kd.R_base ho0) hb); have n2_ := Aside0.mk (Kd.R_lower (Kd.R_new' (Kd.R_new' ho0 (Kd.R_lt (by (with_reducible repeat (first | apply Kd.R_alloc | apply Kd.R_drewN | apply Kd.R_drew)); exact (Kd.R_mono (Kd.R_far (p := ⟨gb133, 2, none⟩) (Kd.R_far (p := ⟨gb133, 1, none⟩) (Kd.R_far (p := ⟨gb133, 0, none⟩) (Kd.R_types HO122.out BK133.out (by decide)) (fun _ hk => hk.2) (.int .i64 (0 : Int))) (fun _ hk => hk.2) (.int .i64 (0 : Int))) (fun _ hk => hk.2) (.string (⟨#[]⟩ : ByteArray))) (fun _ h_ => h_.1))))) (Kd.R_lt (by (with_reducible repeat (first | apply Kd.R_alloc | apply Kd.R_drewN | apply Kd.R_drew)); exact (Kd.R_mono (Kd.R_far (p := ⟨gb133, 2, none⟩) (Kd.R_far (p := ⟨gb133, 1, none⟩) (Kd.R_far (p := ⟨gb133, 0, none⟩) (Kd.R_types HO129.out BK133.out (by decide)) (fun _ hk => hk.2) (.int .i64 (0 : Int))) (fun _ hk => hk.2) (.int .i64 (0 : Int))) (fun _ hk => hk.2) (.string (⟨#[]⟩ : ByteArray))) (fun _ h_ => h_.1))))) (below_size (by repeat (first | (with_reducible first | exact HB.out | apply below_alloc | apply pw_below_drewN | apply below_drew1 | refine below_set ?_ GE126.out | refine below_set ?_ GE133.out) | exact HB.out)))); have n3_ := Aside0.mk (blk_below (g := gb126) (o := .cells #[.int .i64 (0 : Int), .int .i64 (0 : Int), .string (⟨#[]⟩ : ByteArray)] 26 (0, 0)) (by (with_reducible repeat (first | refine blk_drewN ?_ _ | refine blk_drew ?_ | refine blk_alloc ?_ _)); refine blk_far ?_ NB126_133.out _; (with_reducible repeat (first | refine blk_drewN ?_ _ | refine blk_drew ?_ | refine blk_alloc ?_ _)); refine blk_far ?_ NB126_133.out _; (with_reducible repeat (first | refine blk_drewN ?_ _ | refine blk_drew ?_ | refine blk_alloc ?_ _)); refine blk_far ?_ NB126_133.out _; (with_reducible repeat (first | refine blk_drewN ?_ _ | refine blk_drew ?_ | refine blk_alloc ?_ _)); exact BK126.out) hb); have n4_ := Aside0.mk (blk_below (g := gb133) (o := .cells #[.int .i64 (0 : Int), .int .i64 (0 : Int), .string (⟨#[]⟩ : ByteArray)] 26 (0, 0)) (by (with_reducible repeat (first | refine blk_drewN ?_ _ | refine blk_drew ?_ | refine blk_alloc ?_ _)); refine blk_put (cs := #[.int .i64 (0 : Int), .int .i64 (0 : Int), .string (⟨#[]⟩ : ByteArray)]) ?_ 2 _ rfl; (with_reducible repeat (first | refine blk_drewN ?_ _ | refine blk_drew ?_ | refine blk_alloc ?_ _)); refine blk_put (cs := #[.int .i64 (0 : Int), .int .i64 0, .string (⟨#[]⟩ : ByteArray)]) ?_ 1 _ rfl; (with_reducible repeat (first | refine blk_drewN ?_ _ | refine blk_drew ?_ | refine blk_alloc ?_ _)); refine blk_put (cs := #[.int .i64 0, .int .i64 0, .string (⟨#[]⟩ : ByteArray)]) ?_ 0 _ rfl; (with_reducible repeat (first | refine blk_drewN ?_ _ | refine blk_drew ?_ | refine blk_alloc ?_ _)); exact BK133.out) hb); have n5_ := Aside0.mk (below_step (by repeat (first | (with_reducible first | exact HB.out | apply below_alloc | apply pw_below_drewN | apply below_drew1 | refine below_set ?_ GE126.out | refine below_set ?_ GE133.out) | exact HB.out)) hb); clear HO122; clear HO129; clear BK126; clear BK133; clear HB; have HO122 := n0_; have HO129 := n1_; have HO136 := n2_; have BK126 := n3_; have BK133 := n4_; have HB := n5_; clear n0_ n1_ n2_ n3_ n4_ n5_; (try clear hb); (try clear hb2); (try clear hk); (try clear hi); (try clear ho0)) | ((with_reducible refine gate_dst (N := 6) rfl ?_); (try (refine gate_guard (by rfl) ?_; dsimp only)); refine box_event ?hg (N := 6) ?hd (cs := #[.int .i64 0, .int .i64 0, .string (⟨#[]⟩ : ByteArray)]) (t := 26) ?hr ?_; (case hd => rfl); (case hg => rfl); (case hr => first | (go_simp; done) | (go_simp; rfl)); intro gb140 hg w26 hbox hb; have n0_ := Aside0.mk (Kd.R_below (by (with_reducible repeat (first | apply Kd.R_alloc | apply Kd.R_drewN | apply Kd.R_drew)); exact HO122.out) hb); have n1_ := Aside0.mk (Kd.R_below (by (with_reducible repeat (first | apply Kd.R_alloc | apply Kd.R_drewN | apply Kd.R_drew)); exact HO129.out) hb); have n2_ := Aside0.mk (Kd.R_below (by (with_reducible repeat (first | apply Kd.R_alloc | apply Kd.R_drewN | apply Kd.R_drew)); exact HO136.out) hb); have n3_ := Aside0.mk (blk_below (g := gb126) (o := .cells #[.int .i64 (0 : Int), .int .i64 (0 : Int), .string (⟨#[]⟩ : ByteArray)] 26 (0, 0)) (by (with_reducible repeat (first | refine blk_drewN ?_ _ | refine blk_drew ?_ | refine blk_alloc ?_ _)); exact BK126.out) hb); have n4_ := Aside0.mk (blk_below (g := gb133) (o := .cells #[.int .i64 (0 : Int), .int .i64 (0 : Int), .string (⟨#[]⟩ : ByteArray)] 26 (0, 0)) (by (with_reducible repeat (first | refine blk_drewN ?_ _ | refine blk_drew ?_ | refine blk_alloc ?_ _)); exact BK133.out) hb); have n5_ := Aside0.mk (below_step (by repeat (first | (with_reducible first | exact HB.out | apply below_alloc | apply pw_below_drewN | apply below_drew1 | refine below_set ?_ GE126.out | refine below_set ?_ GE133.out) | exact HB.out)) hb); have n6_ := Aside0.mk (hbox); have n7_ := Aside0.mk ((by rw [hg]; exact (below_size (by repeat (first | (with_reducible first | exact HB.out | apply below_alloc | apply pw_below_drewN | apply below_drew1 | refine below_set ?_ GE126.out | refine below_set ?_ GE133.out) | exact HB.out))) : w.heap.size ≤ gb140)); have n8_ := Aside0.mk ((by rw [hg]; exact (below_size (by repeat (first | (with_reducible first | exact HB.out | apply below_alloc | apply pw_below_drewN | apply below_drew1 | refine below_set ?_ GE126.out | refine below_set ?_ GE133.out) | exact HB.out))) : w.heap.size ≤ gb140)); have n9_ := Aside0.mk ((by rw [hg]; exact Nat.ne_of_lt (blk_lt (g := gb126) (o := .cells #[.int .i64 (0 : Int), .int .i64 (0 : Int), .string (⟨#[]⟩ : ByteArray)] 26 (0, 0)) (by (with_reducible repeat (first | refine blk_drewN ?_ _ | refine blk_drew ?_ | refine blk_alloc ?_ _)); exact BK126.out)) : gb126 ≠ gb140)); have n10_ := Aside0.mk ((by rw [hg]; exact Nat.ne_of_gt (blk_lt (g := gb126) (o := .cells #[.int .i64 (0 : Int), .int .i64 (0 : Int), .string (⟨#[]⟩ : ByteArray)] 26 (0, 0)) (by (with_reducible repeat (first | refine blk_drewN ?_ _ | refine blk_drew ?_ | refine blk_alloc ?_ _)); exact BK126.out)) : gb140 ≠ gb126)); have n11_ := Aside0.mk ((by rw [hg]; exact Nat.ne_of_lt (blk_lt (g := gb133) (o := .cells #[.int .i64 (0 : Int), .int .i64 (0 : Int), .string (⟨#[]⟩ : ByteArray)] 26 (0, 0)) (by (with_reducible repeat (first | refine blk_drewN ?_ _ | refine blk_drew ?_ | refine blk_alloc ?_ _)); exact BK133.out)) : gb133 ≠ gb140)); have n12_ := Aside0.mk ((by rw [hg]; exact Nat.ne_of_gt (blk_lt (g := gb133) (o := .cells #[.int .i64 (0 : Int), .int .i64 (0 : Int), .string (⟨#[]⟩ : ByteArray)] 26 (0, 0)) (by (with_reducible repeat (first | refine blk_drewN ?_ _ | refine blk_drew ?_ | refine blk_alloc ?_ _)); exact BK133.out)) : gb140 ≠ gb133)); clear HO122; clear HO129; clear HO136; clear BK126; clear BK133; clear HB; have HO122 := n0_; have HO129 := n1_; have HO136 := n2_; have BK126 := n3_; have BK133 := n4_; have HB := n5_; have BK140 := n6_; have GW140 := n7_; have GE140 := n8_; have NB126_140 := n9_; have NB140_126 := n10_; have NB133_140 := n11_; have NB140_133 := n12_; clear n0_ n1_ n2_ n3_ n4_ n5_ n6_ n7_ n8_ n9_ n10_ n11_ n12_; clear hb hbox hg; have hnb27 := NB140_126.out; have hnc27 := NB126_140.out; have hnb28 := NB140_133.out; have hnc28 := NB133_140.out; have hcz29_0 : w26.cell? ⟨gb140, 0, none⟩ = some (.int .i64 0) := (blk_cell BK140.out 0).trans rfl; have hcz29_1 : w26.cell? ⟨gb140, 1, none⟩ = some (.int .i64 0) := (blk_cell BK140.out 1).trans rfl; have hcz29_2 : w26.cell? ⟨gb140, 2, none⟩ = some (.string (⟨#[]⟩ : ByteArray)) := (blk_cell BK140.out 2).trans rfl; have hfz29_0 := blk_frozen BK140.out 0; have hfz29_1 := blk_frozen BK140.out 1; have hfz29_2 := blk_frozen BK140.out 2) | ((with_reducible refine gate_callee (f := 9) rfl ?_); refine goesL_ (some 22) rfl rfl Tryd.func9 (by kernel_rfl) rfl #[.string (⟨#[47, 97]⟩ : ByteArray)] rfl (by (try simp only [List.map_toArray, List.map_cons, List.map_nil]); first | done | rfl | (simp only [List.length_drop, List.length_take]; rfl)) ?_; (with_reducible refine (speclex_Scan.calls k (⟨#[47, 97]⟩ : ByteArray) t141 (13 : Int) (0 : Int) (⟨#[]⟩ : ByteArray) _ ?side1 A4.out).mono ?_); (case side1 => exact GW.below HGW.out (by repeat (first | (with_reducible first | exact HB.out | apply below_alloc | apply pw_below_drewN | apply below_drew1 | refine below_set ?_ GE126.out | refine below_set ?_ GE133.out | refine below_set ?_ GE140.out) | exact HB.out))); rintro e w30 ⟨v142, rfl, ho0, hb⟩; refine ⟨_, rfl, ?_⟩; have n0_ := Aside0.mk (Kd.R_elder' (by (with_reducible repeat (first | apply Kd.R_alloc | apply Kd.R_drewN | apply Kd.R_drew)); exact (Kd.R_mono (Kd.R_far (p := ⟨gb140, 2, none⟩) (Kd.R_far (p := ⟨gb140, 1, none⟩) (Kd.R_far (p := ⟨gb140, 0, none⟩) (Kd.R_types HO122.out BK140.out (by decide)) (fun _ hk => hk.2) (.int .i64 (14 : Int))) (fun _ hk => hk.2) (.int .i64 (0 : Int))) (fun _ hk => hk.2) (.string (⟨#[]⟩ : ByteArray))) (fun _ h_ => h_.1))) (Kd.R_base ho0) hb); have n1_ := Aside0.mk (Kd.R_elder' (by (with_reducible repeat (first | apply Kd.R_alloc | apply Kd.R_drewN | apply Kd.R_drew)); exact (Kd.R_mono (Kd.R_far (p := ⟨gb140, 2, none⟩) (Kd.R_far (p := ⟨gb140, 1, none⟩) (Kd.R_far (p := ⟨gb140, 0, none⟩) (Kd.R_types HO129.out BK140.out (by decide)) (fun _ hk => hk.2) (.int .i64 (14 : Int))) (fun _ hk => hk.2) (.int .i64 (0 : Int))) (fun _ hk => hk.2) (.string (⟨#[]⟩ : ByteArray))) (fun _ h_ => h_.1))) (Kd.R_base ho0) hb); have n2_ := Aside0.mk (Kd.R_elder' (by (with_reducible repeat (first | apply Kd.R_alloc | apply Kd.R_drewN | apply Kd.R_drew)); exact (Kd.R_mono (Kd.R_far (p := ⟨gb140, 2, none⟩) (Kd.R_far (p := ⟨gb140, 1, none⟩) (Kd.R_far (p := ⟨gb140, 0, none⟩) (Kd.R_types HO136.out BK140.out (by decide)) (fun _ hk => hk.2) (.int .i64 (14 : Int))) (fun _ hk => hk.2) (.int .i64 (0 : Int))) (fun _ hk => hk.2) (.string (⟨#[]⟩ : ByteArray))) (fun _ h_ => h_.1))) (Kd.R_base ho0) hb); have n3_ := Aside0.mk (Kd.R_lower (Kd.R_new' (Kd.R_new' (Kd.R_new' ho0 (Kd.R_lt (by (with_reducible repeat (first | apply Kd.R_alloc | apply Kd.R_drewN | apply Kd.R_drew)); exact (Kd.R_mono (Kd.R_far (p := ⟨gb140, 2, none⟩) (Kd.R_far (p := ⟨gb140, 1, none⟩) (Kd.R_far (p := ⟨gb140, 0, none⟩) (Kd.R_types HO122.out BK140.out (by decide)) (fun _ hk => hk.2) (.int .i64 (14 : Int))) (fun _ hk => hk.2) (.int .i64 (0 : Int))) (fun _ hk => hk.2) (.string (⟨#[]⟩ : ByteArray))) (fun _ h_ => h_.1))))) (Kd.R_lt (by (with_reducible repeat (first | apply Kd.R_alloc | apply Kd.R_drewN | apply Kd.R_drew)); exact (Kd.R_mono (Kd.R_far (p := ⟨gb140, 2, none⟩) (Kd.R_far (p := ⟨gb140, 1, none⟩) (Kd.R_far (p := ⟨gb140, 0, none⟩) (Kd.R_types HO129.out BK140.out (by decide)) (fun _ hk => hk.2) (.int .i64 (14 : Int))) (fun _ hk => hk.2) (.int .i64 (0 : Int))) (fun _ hk => hk.2) (.string (⟨#[]⟩ : ByteArray))) (fun _ h_ => h_.1))))) (Kd.R_lt (by (with_reducible repeat (first | apply Kd.R_alloc | apply Kd.R_drewN | apply Kd.R_drew)); exact (Kd.R_mono (Kd.R_far (p := ⟨gb140, 2, none⟩) (Kd.R_far (p := ⟨gb140, 1, none⟩) (Kd.R_far (p := ⟨gb140, 0, none⟩) (Kd.R_types HO136.out BK140.out (by decide)) (fun _ hk => hk.2) (.int .i64 (14 : Int))) (fun _ hk => hk.2) (.int .i64 (0 : Int))) (fun _ hk => hk.2) (.string (⟨#[]⟩ : ByteArray))) (fun _ h_ => h_.1))))) (below_size (by repeat (first | (with_reducible first | exact HB.out | apply below_alloc | apply pw_below_drewN | apply below_drew1 | refine below_set ?_ GE126.out | refine below_set ?_ GE133.out | refine below_set ?_ GE140.out) | exact HB.out)))); have n4_ := Aside0.mk (blk_below (g := gb126) (o := .cells #[.int .i64 (0 : Int), .int .i64 (0 : Int), .string (⟨#[]⟩ : ByteArray)] 26 (0, 0)) (by (with_reducible repeat (first | refine blk_drewN ?_ _ | refine blk_drew ?_ | refine blk_alloc ?_ _)); refine blk_far ?_ NB126_140.out _; (with_reducible repeat (first | refine blk_drewN ?_ _ | refine blk_drew ?_ | refine blk_alloc ?_ _)); refine blk_far ?_ NB126_140.out _; (with_reducible repeat (first | refine blk_drewN ?_ _ | refine blk_drew ?_ | refine blk_alloc ?_ _)); refine blk_far ?_ NB126_140.out _; (with_reducible repeat (first | refine blk_drewN ?_ _ | refine blk_drew ?_ | refine blk_alloc ?_ _)); exact BK126.out) hb); have n5_ := Aside0.mk (blk_below (g := gb133) (o := .cells #[.int .i64 (0 : Int), .int .i64 (0 : Int), .string (⟨#[]⟩ : ByteArray)] 26 (0, 0)) (by (with_reducible repeat (first | refine blk_drewN ?_ _ | refine blk_drew ?_ | refine blk_alloc ?_ _)); refine blk_far ?_ NB133_140.out _; (with_reducible repeat (first | refine blk_drewN ?_ _ | refine blk_drew ?_ | refine blk_alloc ?_ _)); refine blk_far ?_ NB133_140.out _; (with_reducible repeat (first | refine blk_drewN ?_ _ | refine blk_drew ?_ | refine blk_alloc ?_ _)); refine blk_far ?_ NB133_140.out _; (with_reducible repeat (first | refine blk_drewN ?_ _ | refine blk_drew ?_ | refine blk_alloc ?_ _)); exact BK133.out) hb); have n6_ := Aside0.mk (blk_below (g := gb140) (o := .cells #[.int .i64 (14 : Int), .int .i64 (0 : Int), .string (⟨#[]⟩ : ByteArray)] 26 (0, 0)) (by (with_reducible repeat (first | refine blk_drewN ?_ _ | refine blk_drew ?_ | refine blk_alloc ?_ _)); refine blk_put (cs := #[.int .i64 (14 : Int), .int .i64 (0 : Int), .string (⟨#[]⟩ : ByteArray)]) ?_ 2 _ rfl; (with_reducible repeat (first | refine blk_drewN ?_ _ | refine blk_drew ?_ | refine blk_alloc ?_ _)); refine blk_put (cs := #[.int .i64 (14 : Int), .int .i64 0, .string (⟨#[]⟩ : ByteArray)]) ?_ 1 _ rfl; (with_reducible repeat (first | refine blk_drewN ?_ _ | refine blk_drew ?_ | refine blk_alloc ?_ _)); refine blk_put (cs := #[.int .i64 0, .int .i64 0, .string (⟨#[]⟩ : ByteArray)]) ?_ 0 _ rfl; (with_reducible repeat (first | refine blk_drewN ?_ _ | refine blk_drew ?_ | refine blk_alloc ?_ _)); exact BK140.out) hb); have n7_ := Aside0.mk (below_step (by repeat (first | (with_reducible first | exact HB.out | apply below_alloc | apply pw_below_drewN | apply below_drew1 | refine below_set ?_ GE126.out | refine below_set ?_ GE133.out | refine below_set ?_ GE140.out) | exact HB.out)) hb); clear HO122; clear HO129; clear HO136; clear BK126; clear BK133; clear BK140; clear HB; have HO122 := n0_; have HO129 := n1_; have HO136 := n2_; have HO143 := n3_; have BK126 := n4_; have BK133 := n5_; have BK140 := n6_; have HB := n7_; clear n0_ n1_ n2_ n3_ n4_ n5_ n6_ n7_; (try clear hb); (try clear hb2); (try clear hk); (try clear hi); (try clear ho0)) | ((with_reducible refine gate_dst (N := 8) rfl ?_); (try (refine gate_guard (by rfl) ?_; dsimp only)); refine box_event ?hg (N := 8) ?hd (cs := #[.int .i64 0, .int .i64 0, .string (⟨#[]⟩ : ByteArray)]) (t := 26) ?hr ?_; (case hd => rfl); (case hg => rfl); (case hr => first | (go_simp; done) | (go_simp; rfl)); intro gb147 hg w31 hbox hb; have n0_ := Aside0.mk (Kd.R_below (by (with_reducible repeat (first | apply Kd.R_alloc | apply Kd.R_drewN | apply Kd.R_drew)); exact HO122.out) hb); have n1_ := Aside0.mk (Kd.R_below (by (with_reducible repeat (first | apply Kd.R_alloc | apply Kd.R_drewN | apply Kd.R_drew)); exact HO129.out) hb); have n2_ := Aside0.mk (Kd.R_below (by (with_reducible repeat (first | apply Kd.R_alloc | apply Kd.R_drewN | apply Kd.R_drew)); exact HO136.out) hb); have n3_ := Aside0.mk (Kd.R_below (by (with_reducible repeat (first | apply Kd.R_alloc | apply Kd.R_drewN | apply Kd.R_drew)); exact HO143.out) hb); have n4_ := Aside0.mk (blk_below (g := gb126) (o := .cells #[.int .i64 (0 : Int), .int .i64 (0 : Int), .string (⟨#[]⟩ : ByteArray)] 26 (0, 0)) (by (with_reducible repeat (first | refine blk_drewN ?_ _ | refine blk_drew ?_ | refine blk_alloc ?_ _)); exact BK126.out) hb); have n5_ := Aside0.mk (blk_below (g := gb133) (o := .cells #[.int .i64 (0 : Int), .int .i64 (0 : Int), .string (⟨#[]⟩ : ByteArray)] 26 (0, 0)) (by (with_reducible repeat (first | refine blk_drewN ?_ _ | refine blk_drew ?_ | refine blk_alloc ?_ _)); exact BK133.out) hb); have n6_ := Aside0.mk (blk_below (g := gb140) (o := .cells #[.int .i64 (14 : Int), .int .i64 (0 : Int), .string (⟨#[]⟩ : ByteArray)] 26 (0, 0)) (by (with_reducible repeat (first | refine blk_drewN ?_ _ | refine blk_drew ?_ | refine blk_alloc ?_ _)); exact BK140.out) hb); have n7_ := Aside0.mk (below_step (by repeat (first | (with_reducible first | exact HB.out | apply below_alloc | apply pw_below_drewN | apply below_drew1 | refine below_set ?_ GE126.out | refine below_set ?_ GE133.out | refine below_set ?_ GE140.out) | exact HB.out)) hb); have n8_ := Aside0.mk (hbox); have n9_ := Aside0.mk ((by rw [hg]; exact (below_size (by repeat (first | (with_reducible first | exact HB.out | apply below_alloc | apply pw_below_drewN | apply below_drew1 | refine below_set ?_ GE126.out | refine below_set ?_ GE133.out | refine below_set ?_ GE140.out) | exact HB.out))) : w.heap.size ≤ gb147)); have n10_ := Aside0.mk ((by rw [hg]; exact (below_size (by repeat (first | (with_reducible first | exact HB.out | apply below_alloc | apply pw_below_drewN | apply below_drew1 | refine below_set ?_ GE126.out | refine below_set ?_ GE133.out | refine below_set ?_ GE140.out) | exact HB.out))) : w.heap.size ≤ gb147)); have n11_ := Aside0.mk ((by rw [hg]; exact Nat.ne_of_lt (blk_lt (g := gb126) (o := .cells #[.int .i64 (0 : Int), .int .i64 (0 : Int), .string (⟨#[]⟩ : ByteArray)] 26 (0, 0)) (by (with_reducible repeat (first | refine blk_drewN ?_ _ | refine blk_drew ?_ | refine blk_alloc ?_ _)); exact BK126.out)) : gb126 ≠ gb147)); have n12_ := Aside0.mk ((by rw [hg]; exact Nat.ne_of_gt (blk_lt (g := gb126) (o := .cells #[.int .i64 (0 : Int), .int .i64 (0 : Int), .string (⟨#[]⟩ : ByteArray)] 26 (0, 0)) (by (with_reducible repeat (first | refine blk_drewN ?_ _ | refine blk_drew ?_ | refine blk_alloc ?_ _)); exact BK126.out)) : gb147 ≠ gb126)); have n13_ := Aside0.mk ((by rw [hg]; exact Nat.ne_of_lt (blk_lt (g := gb133) (o := .cells #[.int .i64 (0 : Int), .int .i64 (0 : Int), .string (⟨#[]⟩ : ByteArray)] 26 (0, 0)) (by (with_reducible repeat (first | refine blk_drewN ?_ _ | refine blk_drew ?_ | refine blk_alloc ?_ _)); exact BK133.out)) : gb133 ≠ gb147)); have n14_ := Aside0.mk ((by rw [hg]; exact Nat.ne_of_gt (blk_lt (g := gb133) (o := .cells #[.int .i64 (0 : Int), .int .i64 (0 : Int), .string (⟨#[]⟩ : ByteArray)] 26 (0, 0)) (by (with_reducible repeat (first | refine blk_drewN ?_ _ | refine blk_drew ?_ | refine blk_alloc ?_ _)); exact BK133.out)) : gb147 ≠ gb133)); have n15_ := Aside0.mk ((by rw [hg]; exact Nat.ne_of_lt (blk_lt (g := gb140) (o := .cells #[.int .i64 (14 : Int), .int .i64 (0 : Int), .string (⟨#[]⟩ : ByteArray)] 26 (0, 0)) (by (with_reducible repeat (first | refine blk_drewN ?_ _ | refine blk_drew ?_ | refine blk_alloc ?_ _)); exact BK140.out)) : gb140 ≠ gb147)); have n16_ := Aside0.mk ((by rw [hg]; exact Nat.ne_of_gt (blk_lt (g := gb140) (o := .cells #[.int .i64 (14 : Int), .int .i64 (0 : Int), .string (⟨#[]⟩ : ByteArray)] 26 (0, 0)) (by (with_reducible repeat (first | refine blk_drewN ?_ _ | refine blk_drew ?_ | refine blk_alloc ?_ _)); exact BK140.out)) : gb147 ≠ gb140)); clear HO122; clear HO129; clear HO136; clear HO143; clear BK126; clear BK133; clear BK140; clear HB; have HO122 := n0_; have HO129 := n1_; have HO136 := n2_; have HO143 := n3_; have BK126 := n4_; have BK133 := n5_; have BK140 := n6_; have HB := n7_; have BK147 := n8_; have GW147 := n9_; have GE147 := n10_; have NB126_147 := n11_; have NB147_126 := n12_; have NB133_147 := n13_; have NB147_133 := n14_; have NB140_147 := n15_; have NB147_140 := n16_; clear n0_ n1_ n2_ n3_ n4_ n5_ n6_ n7_ n8_ n9_ n10_ n11_ n12_ n13_ n14_ n15_ n16_; clear hb hbox hg; have hnb32 := NB147_126.out; have hnc32 := NB126_147.out; have hnb33 := NB147_133.out; have hnc33 := NB133_147.out; have hnb34 := NB147_140.out; have hnc34 := NB140_147.out; have hcz35_0 : w31.cell? ⟨gb147, 0, none⟩ = some (.int .i64 0) := (blk_cell BK147.out 0).trans rfl; have hcz35_1 : w31.cell? ⟨gb147, 1, none⟩ = some (.int .i64 0) := (blk_cell BK147.out 1).trans rfl; have hcz35_2 : w31.cell? ⟨gb147, 2, none⟩ = some (.string (⟨#[]⟩ : ByteArray)) := (blk_cell BK147.out 2).trans rfl; have hfz35_0 := blk_frozen BK147.out 0; have hfz35_1 := blk_frozen BK147.out 1; have hfz35_2 := blk_frozen BK147.out 2; have hcz36_0 : w31.cell? ⟨gb126, 0, none⟩ = some (.int .i64 (0 : Int)) := (blk_cell BK126.out 0).trans rfl; have hcz36_1 : w31.cell? ⟨gb126, 1, none⟩ = some (.int .i64 (0 : Int)) := (blk_cell BK126.out 1).trans rfl; have hcz36_2 : w31.cell? ⟨gb126, 2, none⟩ = some (.string (⟨#[]⟩ : ByteArray)) := (blk_cell BK126.out 2).trans rfl; have hfz36_0 := blk_frozen BK126.out 0; have hfz36_1 := blk_frozen BK126.out 1; have hfz36_2 := blk_frozen BK126.out 2; have hcz37_0 : w31.cell? ⟨gb133, 0, none⟩ = some (.int .i64 (0 : Int)) := (blk_cell BK133.out 0).trans rfl; have hcz37_1 : w31.cell? ⟨gb133, 1, none⟩ = some (.int .i64 (0 : Int)) := (blk_cell BK133.out 1).trans rfl; have hcz37_2 : w31.cell? ⟨gb133, 2, none⟩ = some (.string (⟨#[]⟩ : ByteArray)) := (blk_cell BK133.out 2).trans rfl; have hfz37_0 := blk_frozen BK133.out 0; have hfz37_1 := blk_frozen BK133.out 1; have hfz37_2 := blk_frozen BK133.out 2; have hcz38_0 : w31.cell? ⟨gb140, 0, none⟩ = some (.int .i64 (14 : Int)) := (blk_cell BK140.out 0).trans rfl; have hcz38_1 : w31.cell? ⟨gb140, 1, none⟩ = some (.int .i64 (0 : Int)) := (blk_cell BK140.out 1).trans rfl; have hcz38_2 : w31.cell? ⟨gb140, 2, none⟩ = some (.string (⟨#[]⟩ : ByteArray)) := (blk_cell BK140.out 2).trans rfl; have hfz38_0 := blk_frozen BK140.out 0; have hfz38_1 := blk_frozen BK140.out 1; have hfz38_2 := blk_frozen BK140.out 2; obtain ⟨Ao39, co39, eo39⟩ := Kd.R_slice HO122.out; subst eo39; have p148 : 0 ≤ (3 : Int) := (by omega); have q148 : 3 < (t120.length : Int) := of_decide_eq_true (by first | (with_reducible assumption) | assumption); obtain ⟨ad148, e148, hx148_0, hx148_1, hx148_2⟩ := at_T32 (Kd.R_reads' HO122.out).2.2 3 p148 q148; cases e148; (try simp only [show (3 : Int).toNat = 3 from rfl, Nat.reduceMul, Nat.reduceEqDiff, Go.Addr.add, ↓reduceIte] at hx148_0); (try simp only [show (3 : Int).toNat = 3 from rfl, Nat.reduceMul, Nat.reduceEqDiff, Go.Addr.add, ↓reduceIte] at hx148_1); (try simp only [show (3 : Int).toNat = 3 from rfl, Nat.reduceMul, Nat.reduceEqDiff, Go.Addr.add, ↓reduceIte] at hx148_2); have qi148 : (3 < t120.length) = True := eq_true (by omega); (try rw [show ((3 : Int)).toNat = 3 from rfl] at hx148_0); (try rw [show 3 * 3 = 9 from rfl] at hx148_0); (try rw [show ((3 : Int)).toNat = 3 from rfl] at hx148_1); (try rw [show 3 * 3 = 9 from rfl] at hx148_1); (try rw [show ((3 : Int)).toNat = 3 from rfl] at hx148_2); (try rw [show 3 * 3 = 9 from rfl] at hx148_2); have hn148_0 : ad148.block ≠ gb147 := Kd.own_blk (Kd.R_ne HO122.out BK147.out (by decide)); have hn148_1 : ad148.block ≠ gb147 := Kd.own_blk (Kd.R_ne HO122.out BK147.out (by decide)); have hn148_2 : ad148.block ≠ gb147 := Kd.own_blk (Kd.R_ne HO122.out BK147.out (by decide)); replace hx148_0 := (cell_far (p := ⟨gb147, 0, none⟩) (by first | (rw [add_block]; exact hn148_0) | (show (Addr.add _ _).block ≠ _; rw [add_block]; exact hn148_0) | exact hn148_0) (.int .i64 (13 : Int))).trans hx148_0; replace hx148_1 := (cell_far (p := ⟨gb147, 0, none⟩) (by first | (rw [add_block]; exact hn148_0) | (show (Addr.add _ _).block ≠ _; rw [add_block]; exact hn148_0) | exact hn148_0) (.int .i64 (13 : Int))).trans hx148_1; replace hx148_2 := (cell_far (p := ⟨gb147, 0, none⟩) (by first | (rw [add_block]; exact hn148_0) | (show (Addr.add _ _).block ≠ _; rw [add_block]; exact hn148_0) | exact hn148_0) (.int .i64 (13 : Int))).trans hx148_2; replace hx148_0 := (cell_far (p := ⟨gb147, 1, none⟩) (by first | (rw [add_block]; exact hn148_1) | (show (Addr.add _ _).block ≠ _; rw [add_block]; exact hn148_1) | exact hn148_1) (.int .i64 (0 : Int))).trans hx148_0; replace hx148_1 := (cell_far (p := ⟨gb147, 1, none⟩) (by first | (rw [add_block]; exact hn148_1) | (show (Addr.add _ _).block ≠ _; rw [add_block]; exact hn148_1) | exact hn148_1) (.int .i64 (0 : Int))).trans hx148_1; replace hx148_2 := (cell_far (p := ⟨gb147, 1, none⟩) (by first | (rw [add_block]; exact hn148_1) | (show (Addr.add _ _).block ≠ _; rw [add_block]; exact hn148_1) | exact hn148_1) (.int .i64 (0 : Int))).trans hx148_2; replace hx148_0 := (cell_far (p := ⟨gb147, 2, none⟩) (by first | (rw [add_block]; exact hn148_2) | (show (Addr.add _ _).block ≠ _; rw [add_block]; exact hn148_2) | exact hn148_2) (.string (⟨#[]⟩ : ByteArray))).trans hx148_0; replace hx148_1 := (cell_far (p := ⟨gb147, 2, none⟩) (by first | (rw [add_block]; exact hn148_2) | (show (Addr.add _ _).block ≠ _; rw [add_block]; exact hn148_2) | exact hn148_2) (.string (⟨#[]⟩ : ByteArray))).trans hx148_1; replace hx148_2 := (cell_far (p := ⟨gb147, 2, none⟩) (by first | (rw [add_block]; exact hn148_2) | (show (Addr.add _ _).block ≠ _; rw [add_block]; exact hn148_2) | exact hn148_2) (.string (⟨#[]⟩ : ByteArray))).trans hx148_2; clear hn148_0; clear hn148_1; clear hn148_2; replace p148 := eq_true p148; replace q148 := eq_true q148; have p149 : 0 ≤ (5 : Int) := (by omega); have q149 : 5 < (t120.length : Int) := of_decide_eq_true (by first | (with_reducible assumption) | assumption); obtain ⟨ad149, e149, hx149_0, hx149_1, hx149_2⟩ := at_T32 (Kd.R_reads' HO122.out).2.2 5 p149 q149; obtain rfl : ad148 = ad149 := (by injection e149); (try simp only [show (5 : Int).toNat = 5 from rfl, Nat.reduceMul, Nat.reduceEqDiff, Go.Addr.add, ↓reduceIte] at hx149_0); (try simp only [show (5 : Int).toNat = 5 from rfl, Nat.reduceMul, Nat.reduceEqDiff, Go.Addr.add, ↓reduceIte] at hx149_1); (try simp only [show (5 : Int).toNat = 5 from rfl, Nat.reduceMul, Nat.reduceEqDiff, Go.Addr.add, ↓reduceIte] at hx149_2); have qi149 : (5 < t120.length) = True := eq_true (by omega); (try rw [show ((5 : Int)).toNat = 5 from rfl] at hx149_0); (try rw [show 5 * 3 = 15 from rfl] at hx149_0); (try rw [show ((5 : Int)).toNat = 5 from rfl] at hx149_1); (try rw [show 5 * 3 = 15 from rfl] at hx149_1); (try rw [show ((5 : Int)).toNat = 5 from rfl] at hx149_2); (try rw [show 5 * 3 = 15 from rfl] at hx149_2); have hn149_0 : ad148.block ≠ gb147 := Kd.own_blk (Kd.R_ne HO122.out BK147.out (by decide)); have hn149_1 : ad148.block ≠ gb147 := Kd.own_blk (Kd.R_ne HO122.out BK147.out (by decide)); have hn149_2 : ad148.block ≠ gb147 := Kd.own_blk (Kd.R_ne HO122.out BK147.out (by decide)); replace hx149_0 := (cell_far (p := ⟨gb147, 0, none⟩) (by first | (rw [add_block]; exact hn149_0) | (show (Addr.add _ _).block ≠ _; rw [add_block]; exact hn149_0) | exact hn149_0) (.int .i64 (13 : Int))).trans hx149_0; replace hx149_1 := (cell_far (p := ⟨gb147, 0, none⟩) (by first | (rw [add_block]; exact hn149_0) | (show (Addr.add _ _).block ≠ _; rw [add_block]; exact hn149_0) | exact hn149_0) (.int .i64 (13 : Int))).trans hx149_1; replace hx149_2 := (cell_far (p := ⟨gb147, 0, none⟩) (by first | (rw [add_block]; exact hn149_0) | (show (Addr.add _ _).block ≠ _; rw [add_block]; exact hn149_0) | exact hn149_0) (.int .i64 (13 : Int))).trans hx149_2; replace hx149_0 := (cell_far (p := ⟨gb147, 1, none⟩) (by first | (rw [add_block]; exact hn149_1) | (show (Addr.add _ _).block ≠ _; rw [add_block]; exact hn149_1) | exact hn149_1) (.int .i64 (0 : Int))).trans hx149_0; replace hx149_1 := (cell_far (p := ⟨gb147, 1, none⟩) (by first | (rw [add_block]; exact hn149_1) | (show (Addr.add _ _).block ≠ _; rw [add_block]; exact hn149_1) | exact hn149_1) (.int .i64 (0 : Int))).trans hx149_1; replace hx149_2 := (cell_far (p := ⟨gb147, 1, none⟩) (by first | (rw [add_block]; exact hn149_1) | (show (Addr.add _ _).block ≠ _; rw [add_block]; exact hn149_1) | exact hn149_1) (.int .i64 (0 : Int))).trans hx149_2; replace hx149_0 := (cell_far (p := ⟨gb147, 2, none⟩) (by first | (rw [add_block]; exact hn149_2) | (show (Addr.add _ _).block ≠ _; rw [add_block]; exact hn149_2) | exact hn149_2) (.string (⟨#[]⟩ : ByteArray))).trans hx149_0; replace hx149_1 := (cell_far (p := ⟨gb147, 2, none⟩) (by first | (rw [add_block]; exact hn149_2) | (show (Addr.add _ _).block ≠ _; rw [add_block]; exact hn149_2) | exact hn149_2) (.string (⟨#[]⟩ : ByteArray))).trans hx149_1; replace hx149_2 := (cell_far (p := ⟨gb147, 2, none⟩) (by first | (rw [add_block]; exact hn149_2) | (show (Addr.add _ _).block ≠ _; rw [add_block]; exact hn149_2) | exact hn149_2) (.string (⟨#[]⟩ : ByteArray))).trans hx149_2; clear hn149_0; clear hn149_1; clear hn149_2; replace p149 := eq_true p149; replace q149 := eq_true q149; obtain ⟨Ao40, co40, eo40⟩ := Kd.R_slice HO129.out; subst eo40; have p150 : 0 ≤ (0 : Int) := (by omega); have q150 : 0 < (t127.length : Int) := of_decide_eq_true (by first | (with_reducible assumption) | assumption); obtain ⟨ad150, e150, hx150_0, hx150_1, hx150_2⟩ := at_T32 (Kd.R_reads' HO129.out).2.2 0 p150 q150; cases e150; have qi150 : (0 < t127.length) = True := eq_true (by omega); (try rw [show ((0 : Int)).toNat = 0 from rfl] at hx150_0); (try rw [show 0 * 3 = 0 from rfl] at hx150_0); (try rw [Addr.add_zero'] at hx150_0); (try rw [show ((0 : Int)).toNat = 0 from rfl] at hx150_1); (try rw [show 0 * 3 = 0 from rfl] at hx150_1); (try rw [Addr.add_zero'] at hx150_1); (try rw [show ((0 : Int)).toNat = 0 from rfl] at hx150_2); (try rw [show 0 * 3 = 0 from rfl] at hx150_2); (try rw [Addr.add_zero'] at hx150_2); have hn150_0 : ad150.block ≠ gb147 := Kd.own_blk (Kd.R_ne HO129.out BK147.out (by decide)); have hn150_1 : ad150.block ≠ gb147 := Kd.own_blk (Kd.R_ne HO129.out BK147.out (by decide)); have hn150_2 : ad150.block ≠ gb147 := Kd.own_blk (Kd.R_ne HO129.out BK147.out (by decide)); replace hx150_0 := (cell_far (p := ⟨gb147, 0, none⟩) (by first | (rw [add_block]; exact hn150_0) | (show (Addr.add _ _).block ≠ _; rw [add_block]; exact hn150_0) | exact hn150_0) (.int .i64 (13 : Int))).trans hx150_0; replace hx150_1 := (cell_far (p := ⟨gb147, 0, none⟩) (by first | (rw [add_block]; exact hn150_0) | (show (Addr.add _ _).block ≠ _; rw [add_block]; exact hn150_0) | exact hn150_0) (.int .i64 (13 : Int))).trans hx150_1; replace hx150_2 := (cell_far (p := ⟨gb147, 0, none⟩) (by first | (rw [add_block]; exact hn150_0) | (show (Addr.add _ _).block ≠ _; rw [add_block]; exact hn150_0) | exact hn150_0) (.int .i64 (13 : Int))).trans hx150_2; replace hx150_0 := (cell_far (p := ⟨gb147, 1, none⟩) (by first | (rw [add_block]; exact hn150_1) | (show (Addr.add _ _).block ≠ _; rw [add_block]; exact hn150_1) | exact hn150_1) (.int .i64 (0 : Int))).trans hx150_0; replace hx150_1 := (cell_far (p := ⟨gb147, 1, none⟩) (by first | (rw [add_block]; exact hn150_1) | (show (Addr.add _ _).block ≠ _; rw [add_block]; exact hn150_1) | exact hn150_1) (.int .i64 (0 : Int))).trans hx150_1; replace hx150_2 := (cell_far (p := ⟨gb147, 1, none⟩) (by first | (rw [add_block]; exact hn150_1) | (show (Addr.add _ _).block ≠ _; rw [add_block]; exact hn150_1) | exact hn150_1) (.int .i64 (0 : Int))).trans hx150_2; replace hx150_0 := (cell_far (p := ⟨gb147, 2, none⟩) (by first | (rw [add_block]; exact hn150_2) | (show (Addr.add _ _).block ≠ _; rw [add_block]; exact hn150_2) | exact hn150_2) (.string (⟨#[]⟩ : ByteArray))).trans hx150_0; replace hx150_1 := (cell_far (p := ⟨gb147, 2, none⟩) (by first | (rw [add_block]; exact hn150_2) | (show (Addr.add _ _).block ≠ _; rw [add_block]; exact hn150_2) | exact hn150_2) (.string (⟨#[]⟩ : ByteArray))).trans hx150_1; replace hx150_2 := (cell_far (p := ⟨gb147, 2, none⟩) (by first | (rw [add_block]; exact hn150_2) | (show (Addr.add _ _).block ≠ _; rw [add_block]; exact hn150_2) | exact hn150_2) (.string (⟨#[]⟩ : ByteArray))).trans hx150_2; clear hn150_0; clear hn150_1; clear hn150_2; replace p150 := eq_true p150; replace q150 := eq_true q150) | (go_at_call 12; (with_reducible refine (speclex_Show.calls _ _ t127 t151 _ ?side3 ?side1 ?side2 A17.out).mono ?_); (case side1 => refine (Kd.R_reads' (e := 32) (base := w.heap.size) (ok := fun k_ => (((True ∧ some k_ ≠ (.slice (some ad148) t120.length co39 : Value).ownBlock) ∧ some k_ ≠ (v135 : Value).ownBlock) ∧ some k_ ≠ (v142 : Value).ownBlock)) (n := t127.length) (c := co40) ?_).2.2; exact (by (with_reducible repeat (first | apply Kd.R_alloc | apply Kd.R_drewN | apply Kd.R_drew)); exact (Kd.R_mono (Kd.R_far (p := ⟨gb147, 2, none⟩) (Kd.R_far (p := ⟨gb147, 1, none⟩) (Kd.R_far (p := ⟨gb147, 0, none⟩) (Kd.R_types HO129.out BK147.out (by decide)) (fun _ hk => hk.2) (.int .i64 (13 : Int))) (fun _ hk => hk.2) (.int .i64 (0 : Int))) (fun _ hk => hk.2) (.string (⟨#[]⟩ : ByteArray))) (fun _ h_ => h_.1)))); (case side2 => exact (Kd.R_reads' HO129.out).2.1); (case side3 => exact GW.below HGW.out (by repeat (first | (with_reducible first | exact HB.out | apply below_alloc | apply pw_below_drewN | apply below_drew1 | refine below_set ?_ GE126.out | refine below_set ?_ GE133.out | refine below_set ?_ GE140.out | refine below_set ?_ GE147.out) | exact HB.out))); rintro e w41 ⟨rfl, hb⟩; have n0_ := Aside0.mk (Kd.R_below (by (with_reducible repeat (first | apply Kd.R_alloc | apply Kd.R_drewN | apply Kd.R_drew)); exact (Kd.R_mono (Kd.R_far (p := ⟨gb147, 2, none⟩) (Kd.R_far (p := ⟨gb147, 1, none⟩) (Kd.R_far (p := ⟨gb147, 0, none⟩) (Kd.R_types HO122.out BK147.out (by decide)) (fun _ hk => hk.2) (.int .i64 (13 : Int))) (fun _ hk => hk.2) (.int .i64 (0 : Int))) (fun _ hk => hk.2) (.string (⟨#[]⟩ : ByteArray))) (fun _ h_ => h_.1))) hb); have n1_ := Aside0.mk (Kd.R_below (by (with_reducible repeat (first | apply Kd.R_alloc | apply Kd.R_drewN | apply Kd.R_drew)); exact (Kd.R_mono (Kd.R_far (p := ⟨gb147, 2, none⟩) (Kd.R_far (p := ⟨gb147, 1, none⟩) (Kd.R_far (p := ⟨gb147, 0, none⟩) (Kd.R_types HO129.out BK147.out (by decide)) (fun _ hk => hk.2) (.int .i64 (13 : Int))) (fun _ hk => hk.2) (.int .i64 (0 : Int))) (fun _ hk => hk.2) (.string (⟨#[]⟩ : ByteArray))) (fun _ h_ => h_.1))) hb); have n2_ := Aside0.mk (Kd.R_below (by (with_reducible repeat (first | apply Kd.R_alloc | apply Kd.R_drewN | apply Kd.R_drew)); exact (Kd.R_mono (Kd.R_far (p := ⟨gb147, 2, none⟩) (Kd.R_far (p := ⟨gb147, 1, none⟩) (Kd.R_far (p := ⟨gb147, 0, none⟩) (Kd.R_types HO136.out BK147.out (by decide)) (fun _ hk => hk.2) (.int .i64 (13 : Int))) (fun _ hk => hk.2) (.int .i64 (0 : Int))) (fun _ hk => hk.2) (.string (⟨#[]⟩ : ByteArray))) (fun _ h_ => h_.1))) hb); have n3_ := Aside0.mk (Kd.R_below (by (with_reducible repeat (first | apply Kd.R_alloc | apply Kd.R_drewN | apply Kd.R_drew)); exact (Kd.R_mono (Kd.R_far (p := ⟨gb147, 2, none⟩) (Kd.R_far (p := ⟨gb147, 1, none⟩) (Kd.R_far (p := ⟨gb147, 0, none⟩) (Kd.R_types HO143.out BK147.out (by decide)) (fun _ hk => hk.2) (.int .i64 (13 : Int))) (fun _ hk => hk.2) (.int .i64 (0 : Int))) (fun _ hk => hk.2) (.string (⟨#[]⟩ : ByteArray))) (fun _ h_ => h_.1))) hb); have n4_ := Aside0.mk (blk_below (g := gb126) (o := .cells #[.int .i64 (0 : Int), .int .i64 (0 : Int), .string (⟨#[]⟩ : ByteArray)] 26 (0, 0)) (by (with_reducible repeat (first | refine blk_drewN ?_ _ | refine blk_drew ?_ | refine blk_alloc ?_ _)); refine blk_far ?_ NB126_147.out _; (with_reducible repeat (first | refine blk_drewN ?_ _ | refine blk_drew ?_ | refine blk_alloc ?_ _)); refine blk_far ?_ NB126_147.out _; (with_reducible repeat (first | refine blk_drewN ?_ _ | refine blk_drew ?_ | refine blk_alloc ?_ _)); refine blk_far ?_ NB126_147.out _; (with_reducible repeat (first | refine blk_drewN ?_ _ | refine blk_drew ?_ | refine blk_alloc ?_ _)); exact BK126.out) hb); have n5_ := Aside0.mk (blk_below (g := gb133) (o := .cells #[.int .i64 (0 : Int), .int .i64 (0 : Int), .string (⟨#[]⟩ : ByteArray)] 26 (0, 0)) (by (with_reducible repeat (first | refine blk_drewN ?_ _ | refine blk_drew ?_ | refine blk_alloc ?_ _)); refine blk_far ?_ NB133_147.out _; (with_reducible repeat (first | refine blk_drewN ?_ _ | refine blk_drew ?_ | refine blk_alloc ?_ _)); refine blk_far ?_ NB133_147.out _; (with_reducible repeat (first | refine blk_drewN ?_ _ | refine blk_drew ?_ | refine blk_alloc ?_ _)); refine blk_far ?_ NB133_147.out _; (with_reducible repeat (first | refine blk_drewN ?_ _ | refine blk_drew ?_ | refine blk_alloc ?_ _)); exact BK133.out) hb); have n6_ := Aside0.mk (blk_below (g := gb140) (o := .cells #[.int .i64 (14 : Int), .int .i64 (0 : Int), .string (⟨#[]⟩ : ByteArray)] 26 (0, 0)) (by (with_reducible repeat (first | refine blk_drewN ?_ _ | refine blk_drew ?_ | refine blk_alloc ?_ _)); refine blk_far ?_ NB140_147.out _; (with_reducible repeat (first | refine blk_drewN ?_ _ | refine blk_drew ?_ | refine blk_alloc ?_ _)); refine blk_far ?_ NB140_147.out _; (with_reducible repeat (first | refine blk_drewN ?_ _ | refine blk_drew ?_ | refine blk_alloc ?_ _)); refine blk_far ?_ NB140_147.out _; (with_reducible repeat (first | refine blk_drewN ?_ _ | refine blk_drew ?_ | refine blk_alloc ?_ _)); exact BK140.out) hb); have n7_ := Aside0.mk (blk_below (g := gb147) (o := .cells #[.int .i64 (13 : Int), .int .i64 (0 : Int), .string (⟨#[]⟩ : ByteArray)] 26 (0, 0)) (by (with_reducible repeat (first | refine blk_drewN ?_ _ | refine blk_drew ?_ | refine blk_alloc ?_ _)); refine blk_put (cs := #[.int .i64 (13 : Int), .int .i64 (0 : Int), .string (⟨#[]⟩ : ByteArray)]) ?_ 2 _ rfl; (with_reducible repeat (first | refine blk_drewN ?_ _ | refine blk_drew ?_ | refine blk_alloc ?_ _)); refine blk_put (cs := #[.int .i64 (13 : Int), .int .i64 0, .string (⟨#[]⟩ : ByteArray)]) ?_ 1 _ rfl; (with_reducible repeat (first | refine blk_drewN ?_ _ | refine blk_drew ?_ | refine blk_alloc ?_ _)); refine blk_put (cs := #[.int .i64 0, .int .i64 0, .string (⟨#[]⟩ : ByteArray)]) ?_ 0 _ rfl; (with_reducible repeat (first | refine blk_drewN ?_ _ | refine blk_drew ?_ | refine blk_alloc ?_ _)); exact BK147.out) hb); have n8_ := Aside0.mk (below_step (by repeat (first | (with_reducible first | exact HB.out | apply below_alloc | apply pw_below_drewN | apply below_drew1 | refine below_set ?_ GE126.out | refine below_set ?_ GE133.out | refine below_set ?_ GE140.out | refine below_set ?_ GE147.out) | exact HB.out)) hb); clear HO122; clear HO129; clear HO136; clear HO143; clear BK126; clear BK133; clear BK140; clear BK147; clear HB; have HO122 := n0_; have HO129 := n1_; have HO136 := n2_; have HO143 := n3_; have BK126 := n4_; have BK133 := n5_; have BK140 := n6_; have BK147 := n7_; have HB := n8_; clear n0_ n1_ n2_ n3_ n4_ n5_ n6_ n7_ n8_; (try clear hb); (try clear hb2); (try clear hk); (try clear hi)))
                          go_ret
                          exact ⟨by first | rfl | (simp [errW_none, errW_some] <;> rfl) | (simp [*, errW_none, errW_some] <;> rfl), by repeat (first | (with_reducible first | exact HB.out | apply below_alloc | apply pw_below_drewN | apply below_drew1 | refine below_set ?_ GE126.out | refine below_set ?_ GE133.out | refine below_set ?_ GE140.out | refine below_set ?_ GE147.out) | exact HB.out)⟩
                        · rw [if_neg c16] at H
                          exact absurd H (by simp)
                      · rw [if_neg c15] at H
                        exact absurd H (by simp)
                    · rw [if_neg c14] at H
                      exact absurd H (by simp)
                  · rw [if_neg c13] at H
                    exact absurd H (by simp)
                · rw [if_neg c12] at H
                  exact absurd H (by simp)
              · rw [if_neg c11] at H
                exact absurd H (by simp)
            · rw [if_neg c10] at H
              exact absurd H (by simp)
          · rw [if_neg c9] at H
            exact absurd H (by simp)
        · rw [if_neg c8] at H
          exact absurd H (by simp)
      · rw [if_neg c7] at H
        exact absurd H (by simp)
    · rw [if_neg c6] at H
      exact absurd H (by simp)
  · rw [if_neg c5] at H
    exact absurd H (by simp)
end Go.Proofs.YthijdjpipjbkbaaDoor.H
end
section
namespace Go.Proofs.YthijdjpipjbkbaaDoor.H
open Go.RowKit Go.Proofs.YthijdjpipjbkbaaDoorW.PrintWords Go.Proofs.YthijdjpipjbkbaaDoorW.PrintLast Go.Proofs.YthijdjpipjbkbaaDoorW.PrintMore
set_option linter.unusedVariables false
set_option linter.unusedSimpArgs false
set_option maxRecDepth 100000 in
theorem knows_true : arboristlaw11_knows.f 60 = some true := by
  simp only [arboristlaw11_knows.f, ByteArray.toList_eq]
  kernel_rfl
theorem knows_ends : Ends (fun k => (arboristlaw11_knows.f k).bind fun t => some t) true := Ends.bind (g := fun _ t => some t) (Ends.of_mono (fun k => arboristlaw11_knows.mono k) ⟨60, knows_true⟩) (Ends.const _)
end Go.Proofs.YthijdjpipjbkbaaDoor.H
end
section
namespace Go.Proofs.YthijdjpipjbkbaaDoor.H
open Go.RowKit Go.Proofs.YthijdjpipjbkbaaDoorW.PrintWords Go.Proofs.YthijdjpipjbkbaaDoorW.PrintLast Go.Proofs.YthijdjpipjbkbaaDoorW.PrintMore
set_option linter.unusedVariables false
set_option linter.unusedSimpArgs false
theorem same3_l0 (l m : List S32) (hl : l.length ≤ 100000) (h : m.map (fun x => (x.f0, x.f1)) = l.map (fun x => (x.f0, x.f1))) : ∀ (d i : Nat), l.length = i + d → Ends (fun k => arboristlaw11_same.l0 k l m (i : Int)) true := by
  have hlen : m.length = l.length := by have := congrArg List.length h; simpa using this
  intro d
  induction d with
  | zero => intro i h; exact Ends.step (fun k => arboristlaw11_same.l0.eq_2 ..) (Ends.neg (by omega) (Ends.const _))
  | succ d ih =>
    intro i hi
    have h1 : i < l.length := by omega
    have h2 : i < m.length := by omega
    have e := congrArg (·[i]?) h
    simp only [List.getElem?_map, List.getElem?_eq_getElem h1, List.getElem?_eq_getElem h2, Option.map_some, Option.some.injEq, Prod.mk.injEq] at e
    refine Ends.step (fun k => arboristlaw11_same.l0.eq_2 ..) (Ends.pos (by omega) (Ends.pos (by omega) (Ends.pos (by omega) ?_)))
    rw [rdS l i h1, rdS m i h2, next_nat i (by omega)]
    exact Ends.pos e.1.symm (Ends.pos (by rw [e.2]) (ih (i + 1) (by omega)))
theorem same3 (l m : List S32) (hl : l.length ≤ 100000) (h : m.map (fun x => (x.f0, x.f1)) = l.map (fun x => (x.f0, x.f1))) : Ends (fun k => arboristlaw11_same.f k l m) true := by
  have hlen : m.length = l.length := by have := congrArg List.length h; simpa using this
  exact Ends.pos (by omega) (same3_l0 l m hl h l.length 0 (by omega))
theorem sc_scan {l : List UInt8} {L : List S32} (h : Sc 0 l L) (hl : l.length ≤ 1000) : Ends (fun k => speclex_Scan.f k (ba l)) (L, 0, 0, ⟨#[]⟩) := by
  unfold speclex_Scan.f
  exact Ends.pos (by rw [ba_len]; omega) (sc_ends h [] [] rfl hl (Nat.le_refl _))
theorem scan_is (l : List UInt8) (hl : l.length ≤ 900) : ∃ v : List S32 × Int × Int × ByteArray, Ends (fun k => speclex_Scan.f k (ba l)) v ∧ ((∃ L, v = (L, 0, 0, ⟨#[]⟩) ∧ Sc 0 l L) ∨ v.2.1 ≠ 0) := by
  obtain ⟨v, f1, f2⟩ := scan_sc l hl l.length 0 [] (by omega) (by omega) (by simp)
  refine ⟨v, ?_, ?_⟩
  · unfold speclex_Scan.f
    exact Ends.pos (by rw [ba_len]; omega) f1
  · rcases f2 with ⟨L, rfl, h⟩ | ⟨e, a, rfl, he⟩
    · exact .inl ⟨L, by simp, h⟩
    · exact .inr he
theorem at_tok {l : List UInt8} {L : List S32} (h : Sc 0 l L) (i : Nat) (hi : i < L.length) (hh : ∀ j, i = j + 1 → ∀ hj : j < L.length, ¬ isHash L[j].f0 L[j].f1) :
    ∃ (u : List UInt8) (c : UInt8) (w : List UInt8), l = u ++ c :: w ∧ L[i].f2 = (u.length : Int) ∧ Sc u.length (c :: w) (L[i] :: L.drop (i + 1)) ∧
      ∀ (w2 : List UInt8) (M : List S32), (u ++ w2).length ≤ 1000 → Stop w2 → Sc u.length w2 M → Sc 0 (u ++ w2) (L.take i ++ M) := by
  have e : L = L.take i ++ L[i] :: L.drop (i + 1) := by rw [← List.drop_eq_getElem_cons hi, List.take_append_drop]
  obtain ⟨u, c, w, h1, h2, h3, h4, h5, h6, h7⟩ := sc_cut h (L.take i) L[i] (L.drop (i + 1)) e (fun x hx => by
    cases i with
    | zero => simp at hx
    | succ j =>
      have hj : j < L.length := by omega
      rw [List.getLast?_eq_getElem?, List.length_take, show min (j + 1) L.length - 1 = j by omega, List.getElem?_take, if_pos (by omega), List.getElem?_eq_getElem hj] at hx
      rw [← Option.some.inj hx]
      exact hh j rfl hj)
  rw [Nat.zero_add] at h2 h4 h7
  exact ⟨u, c, w, h1, h2, h4, h7⟩
theorem hash_is {k : Int} {t : ByteArray} : isHash k t ↔ k = 6 ∧ t.toList = ([35] : List UInt8) := by
  unfold isHash
  rw [Lib.toList_data]
  exact ⟨fun h => ⟨h.1, by rw [h.2, ba_list]⟩, fun h => ⟨h.1, ba_ext (by rw [h.2, ba_list])⟩⟩
theorem stop_of {c : UInt8} {l : List UInt8} (h : wordB c.toNat = false) : Stop (c :: l) := by
  intro x t e
  injection e with e _
  rw [← e]; exact h
theorem Incr.get : ∀ {L : List S32} {a b : Nat}, Incr a b L → ∀ i (hi : i < L.length), 0 ≤ L[i].f2 ∧ L[i].f2 < (b : Int)
  | [], _, _, _, i, hi => by simp at hi
  | m :: r, a, b, ⟨j, h1, h2, h3, h4⟩, 0, _ => by
    show 0 ≤ m.f2 ∧ m.f2 < (b : Int)
    omega
  | m :: r, a, b, ⟨j, h1, h2, h3, h4⟩, i + 1, hi => Incr.get h4 i (by simpa using hi)
end Go.Proofs.YthijdjpipjbkbaaDoor.H
end
