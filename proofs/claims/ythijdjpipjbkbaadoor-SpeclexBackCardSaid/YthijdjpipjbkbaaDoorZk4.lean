/- For every text that the guards let in, SpeclexBack returns true: scanning the output of Show yields the same tokens again. -/
import Derived.Stop.FmtQuoteTie
import Derived.Lib.MapLaws
import Derived.Lib.IndexLaws
import Derived.WalkMore
import Derived.Deep.LoopGhost
import Derived.Test.YthijdjpipjbkbaaDoorRows
import Derived.Test.YthijdjpipjbkbaaDoorTie
import Derived.Test.YthijdjpipjbkbaaDoorCards
import Derived.Deep.DeepHandedRow
import Derived.ProofKit
import Derived.SizedLaws
import Derived.OpenShut
import Derived.ShutString
import Derived.ChangeOld
import Derived.Below
import Derived.SevenTiedAt
import Derived.WalkKit
import Derived.Stop.LaidErr
import Derived.Test.YthijdjpipjbkbaaDoorZk3
section
namespace Go.Proofs.YthijdjpipjbkbaaDoor.H
open Go.RowKit Go.Proofs.YthijdjpipjbkbaaDoorW.PrintWords Go.Proofs.YthijdjpipjbkbaaDoorW.PrintLast Go.Proofs.YthijdjpipjbkbaaDoorW.PrintMore
set_option linter.unusedVariables false
set_option linter.unusedSimpArgs false
theorem nums_back (l : List UInt8) : (Extern.FmtText.nums l).map (fun x => x.toNat.toUInt8) = l := by
  induction l with
  | nil => rfl
  | cons c r ih =>
    unfold Extern.FmtText.nums at ih ⊢
    rw [List.map_cons, List.map_cons, ih]
    congr 1
    simp [Nat.toUInt8]
theorem encode_list (r : Nat) : (Utf8.encode (r : Int)).data.toList = Lib.encodeRune (r : Int) := by
  unfold Lib.encodeRune
  rw [← Extern.FmtText.encode_eq r, nums_back]
theorem encode_ba (r : Nat) : Utf8.encode (r : Int) = ba (Lib.encodeRune (r : Int)) := ba_ext (by rw [encode_list, ba_list])
theorem ib_esc (c : UInt8) (n : Int) (h : Lib.indexByte [34, 92, 110, 114, 116] c = n) : strings_IndexByte.f (⟨#[34, 92, 110, 114, 116]⟩ : ByteArray) (c.toNat : Int) = some n := by
  unfold strings_IndexByte.f
  have e : ((c.toNat : Int)).toNat.toUInt8 = c := by simp [Nat.toUInt8]
  rw [e, ← h]
theorem esc_char (c : UInt8) (i : Nat) (t : List UInt8) (d : UInt8) (hi : i < 5) (h : Lib.indexByte [34, 92, 110, 114, 116] c = (i : Int)) (hd : (⟨#[34, 92, 10, 13, 9]⟩ : ByteArray).extract i (i + 1) = ba [d]) : Ends (fun k => text_escape.f k (ba (c :: t))) (ba [d], 1) := by
  obtain ⟨hs, hb⟩ := bt_ba (l := c :: t) (i := 0) rfl
  have hb' : bt (ba (c :: t)) 0 = (c.toNat : Int) := hb
  have n1 : i + 1 ≤ 4294967296 := by omega
  have i0 : (i : Int) ≥ 0 := by omega
  have i1 : (i : Int) ≤ ((i + 1 : Nat) : Int) := by omega
  have i2 : ((i + 1 : Nat) : Int) ≤ 5 := by omega
  have s0 : 0 < ((ba (c :: t)).size : Int) := by omega
  have ew : wrap64 ((i : Int) + 1) = ((i + 1 : Nat) : Int) := (congrArg wrap64 (by push_cast; rfl)).trans (wrap_nat _ n1)
  have EW := Aside0.mk ew
  clear ew
  unfold text_escape.f
  refine Ends.neg (by rw [ByteArray.toList_eq, ba_list]; simp) (Ends.pos s0 (Ends.bind0 (a := (i : Int)) (by rw [hb']; exact ib_esc c _ h) (Ends.pos i0 (Ends.pos i0 ?_))))
  simp only [EW.out, Int.toNat_natCast, hd]
  exact Ends.pos i1 (Ends.pos i2 (Ends.const _))
theorem esc_brace (c : UInt8) (least most : Nat) (hm : most ≤ 6) (u : Nat) (t : List UInt8) (h1 : (digs 14 u []).length ≤ most) (h2 : least ≤ (digs 14 u []).length) (hu : u ≤ 1114111) :
    Ends (fun k => text_braced.f k ((ba (c :: 123 :: (hexL 14 u [] ++ 125 :: t))).extract 1 (ba (c :: 123 :: (hexL 14 u [] ++ 125 :: t))).size) (least : Int) (most : Int)) ((u : Int), (((hexL 14 u []).length + 2 : Nat) : Int)) := by
  have hb : u < 16 ^ 15 := by
    have : (16 : Nat) ^ 15 = 1152921504606846976 := by decide
    omega
  have e := hexL_digs 14 u []
  simp only [List.map_nil] at e
  rw [ba_drop]
  simp only [List.drop_succ_cons, List.drop_zero]
  rw [e]
  refine (braced_ends t least most hm (digs 14 u []) (digs_lt 14 u [] hb (by simp)) h1 h2).val ?_
  rw [digs_worth 14 u [] hb, List.length_map]
  rfl
theorem esc_x (c8 : Nat) (h0 : 128 ≤ c8) (h1 : c8 < 256) (t : List UInt8) : Ends (fun k => text_escape.f k (ba (120 :: 123 :: (hexL 14 c8 [] ++ 125 :: t)))) (ba [c8.toUInt8], (((hexL 14 c8 []).length + 3 : Nat) : Int)) := by
  obtain ⟨hs, hb⟩ := bt_ba (l := 120 :: 123 :: (hexL 14 c8 [] ++ 125 :: t)) (i := 0) rfl
  have hb' : bt (ba (120 :: 123 :: (hexL 14 c8 [] ++ 125 :: t))) 0 = 120 := hb
  obtain ⟨l1, l2, l3⟩ := digs_len 14 c8 2 [] (by simpa using h1) (by omega)
  simp only [List.length_nil] at l1 l2 l3
  have l4 := l3 (by omega) (by omega)
  have hbr := esc_brace 120 2 2 (by omega) c8 t (by omega) (by omega) (by omega)
  have hlen := hexL_len 14 c8 []
  simp only [List.length_nil] at hlen
  have s0 : 0 < ((ba (120 :: 123 :: (hexL 14 c8 [] ++ 125 :: t))).size : Int) := by omega
  have s1 : 1 ≤ ((ba (120 :: 123 :: (hexL 14 c8 [] ++ 125 :: t))).size : Int) := by omega
  have n1 : ¬ ((((hexL 14 c8 []).length + 2 : Nat) : Int) < 1) := by omega
  have n2 : (hexL 14 c8 []).length + 3 ≤ 4294967296 := by omega
  have ew : wrap64 (1 + (((hexL 14 c8 []).length + 2 : Nat) : Int)) = (((hexL 14 c8 []).length + 3 : Nat) : Int) := (congrArg wrap64 (by push_cast; omega)).trans (wrap_nat _ n2)
  have em : (c8 : Int) % 256 = (c8 : Int) := by omega
  have EW := Aside0.mk ew
  clear ew
  unfold text_escape.f
  refine Ends.neg (by rw [ByteArray.toList_eq, ba_list]; simp) (Ends.pos s0 (Ends.bind0 (a := -1) (by rw [hb']; decide) (Ends.neg (by decide) (Ends.pos hb' ?_))))
  refine Ends.step (fun k => text_escape.j0.eq_2 ..) (Ends.pos s1 (Ends.bind hbr (Ends.neg n1 (Ends.pos rfl ?_))))
  simp only [EW.out, em]
  exact Ends.const _
theorem valid_ends (r : Nat) (h : r < 55296 ∨ (57343 < r ∧ r ≤ 1114111)) : Ends (fun k => utf8_ValidRune.f k (r : Int)) true := by
  unfold utf8_ValidRune.f
  refine Ends.pos (by omega) (Ends.step (fun k => utf8_ValidRune.j0.eq_2 ..) ?_)
  by_cases q : (r : Int) < 55296
  · exact Ends.pos (by simpa using q) (Ends.const _)
  · exact Ends.neg (by simpa using q) (Ends.pos (by omega) (Ends.pos (by omega) (Ends.const _)))
theorem esc_u (r : Nat) (hv : r < 55296 ∨ (57343 < r ∧ r ≤ 1114111)) (t : List UInt8) : Ends (fun k => text_escape.f k (ba (117 :: 123 :: (hexL 14 r [] ++ 125 :: t)))) (ba (Lib.encodeRune (r : Int)), (((hexL 14 r []).length + 3 : Nat) : Int)) := by
  obtain ⟨hs, hb⟩ := bt_ba (l := 117 :: 123 :: (hexL 14 r [] ++ 125 :: t)) (i := 0) rfl
  have hb' : bt (ba (117 :: 123 :: (hexL 14 r [] ++ 125 :: t))) 0 = 117 := hb
  have h6 : r < 16 ^ 6 := by
    have : (16 : Nat) ^ 6 = 16777216 := by decide
    omega
  obtain ⟨l1, l2, l3⟩ := digs_len 14 r 6 [] h6 (by omega)
  simp only [List.length_nil] at l1 l2 l3
  have hbr := esc_brace 117 1 6 (by omega) r t (by omega) (by omega) (by omega)
  have hlen := hexL_len 14 r []
  simp only [List.length_nil] at hlen
  have s0 : 0 < ((ba (117 :: 123 :: (hexL 14 r [] ++ 125 :: t))).size : Int) := by omega
  have s1 : 1 ≤ ((ba (117 :: 123 :: (hexL 14 r [] ++ 125 :: t))).size : Int) := by omega
  have n1 : ¬ ((((hexL 14 r []).length + 2 : Nat) : Int) < 1) := by omega
  have n2 : (hexL 14 r []).length + 3 ≤ 4294967296 := by omega
  have hw : wrap32 (r : Int) = (r : Int) := by unfold wrap32; omega
  have ew : wrap64 (1 + (((hexL 14 r []).length + 2 : Nat) : Int)) = (((hexL 14 r []).length + 3 : Nat) : Int) := (congrArg wrap64 (by push_cast; omega)).trans (wrap_nat _ n2)
  have EW := Aside0.mk ew
  have HW := Aside0.mk hw
  clear ew hw
  unfold text_escape.f
  refine Ends.neg (by rw [ByteArray.toList_eq, ba_list]; simp) (Ends.pos s0 (Ends.bind0 (a := -1) (by rw [hb']; decide) (Ends.neg (by decide) (Ends.neg (by rw [hb']; decide) (Ends.pos hb' ?_)))))
  refine Ends.step (fun k => text_escape.j0.eq_2 ..) (Ends.pos s1 (Ends.bind hbr (Ends.neg n1 (Ends.neg (by decide) ?_))))
  simp only [EW.out, HW.out, encode_ba]
  exact Ends.bind (valid_ends r hv) (Ends.pos rfl (Ends.const _))
end Go.Proofs.YthijdjpipjbkbaaDoor.H
end
section
namespace Go.Proofs.YthijdjpipjbkbaaDoor.H
open Go.RowKit Go.Proofs.YthijdjpipjbkbaaDoorW.PrintWords Go.Proofs.YthijdjpipjbkbaaDoorW.PrintLast Go.Proofs.YthijdjpipjbkbaaDoorW.PrintMore
set_option linter.unusedVariables false
set_option linter.unusedSimpArgs false
def Behind (R : List UInt8) : Prop := R = [] ∨ ∃ r, R = 10 :: r
theorem decodeN_line (n n' b0 b1 b2 b3 b1' b2' b3' : Nat) (h1 : (1 < n ∧ b1 / 64 = 2) ↔ (1 < n' ∧ b1' / 64 = 2)) (g1 : 1 < n → b1 = b1') (h2 : 1 < n → ((2 < n ∧ b2 / 64 = 2) ↔ (2 < n' ∧ b2' / 64 = 2))) (g2 : 2 < n → b2 = b2') (h3 : 2 < n → ((3 < n ∧ b3 / 64 = 2) ↔ (3 < n' ∧ b3' / 64 = 2))) (g3 : 3 < n → b3 = b3') :
    Lib.decodeN n b0 b1 b2 b3 = Lib.decodeN n' b0 b1' b2' b3' := by
  unfold Lib.decodeN
  by_cases c1 : 1 < n ∧ b1 / 64 = 2
  · obtain rfl := g1 c1.1
    have d1 := h1.1 c1
    by_cases c2 : 2 < n ∧ b2 / 64 = 2
    · obtain rfl := g2 c2.1
      have d2 := (h2 c1.1).1 c2
      by_cases c3 : 3 < n ∧ b3 / 64 = 2
      · obtain rfl := g3 c3.1
        have d3 := (h3 c2.1).1 c3
        simp only [c1, c2, c3, d1, d2, d3, and_true, true_and]
      · have d3 : ¬ (3 < n' ∧ b3' / 64 = 2) := fun q => c3 ((h3 c2.1).2 q)
        simp only [c1, c2, c3, d1, d2, d3, and_true, true_and, and_false, if_false]
    · have d2 : ¬ (2 < n' ∧ b2' / 64 = 2) := fun q => c2 ((h2 c1.1).2 q)
      simp only [c1, c2, d1, d2, and_true, true_and, and_false, false_and, if_false]
  · have d1 : ¬ (1 < n' ∧ b1' / 64 = 2) := fun q => c1 (h1.2 q)
    simp only [c1, d1, and_false, false_and, if_false]
theorem get_ba (l : List UInt8) (i : Nat) : (ba l).get! i = l.getD i 0 := by
  show l.toArray[i]! = _
  simp [List.getD_eq_getElem?_getD]
  rfl
theorem decode_line (T R : List UInt8) (hR : Behind R) (p : Nat) (hp : p < T.length) : Utf8.decode (ba (T ++ R)) p = Utf8.decode (ba T) p := by
  rw [Lib.decode_at, Lib.decode_at]
  simp only [get_ba, ba_size, List.length_append]
  have inn : ∀ i, i < T.length → (T ++ R).getD i 0 = T.getD i 0 := fun i hi => by
    simp [List.getD_eq_getElem?_getD, List.getElem?_append_left hi]
  have out : (T.length < (T ++ R).length → ((T ++ R).getD T.length 0).toNat / 64 ≠ 2) := fun h => by
    rcases hR with rfl | ⟨r, rfl⟩
    · simp at h
    · simp [List.getD_eq_getElem?_getD]
  have key : ∀ k, p + k ≤ T.length → ((k < T.length - p ∧ (T.getD (p + k) 0).toNat / 64 = 2) ↔ (k < T.length + R.length - p ∧ ((T ++ R).getD (p + k) 0).toNat / 64 = 2)) := fun k hk => by
    rcases Nat.lt_or_ge (p + k) T.length with q | q
    · rw [inn _ q]; exact ⟨fun h => ⟨by omega, h.2⟩, fun h => ⟨by omega, h.2⟩⟩
    · have e : p + k = T.length := by omega
      rw [e]
      exact ⟨fun h => by omega, fun h => absurd h.2 (out (by simp; omega))⟩
  have e0 := inn p hp
  rw [e0]
  symm
  refine decodeN_line _ _ _ _ _ _ _ _ _ (key 1 (by omega)) (fun h => by rw [inn _ (by omega)]) (fun h => key 2 (by omega)) (fun h => by rw [inn _ (by omega)]) (fun h => key 3 (by omega)) (fun h => by rw [inn _ (by omega)])
inductive BR where
  | un : BR
  | fo : BR
  | ok : Nat → Nat → BR
def BR.t : BR → Int × Int
  | .un => (0, -1)
  | .fo => (0, 0)
  | .ok n len => ((n : Int), (len : Int))
def BR.r : BR → Int × Int × Int
  | .un => (0, 0, 13)
  | .fo => (0, 0, 3)
  | .ok n len => ((n : Int), (len : Int), 0)
def BR.Fine (m : Nat) : BR → Prop
  | .ok n len => n < 16777216 ∧ 2 ≤ len ∧ len ≤ m ∧ len ≤ 8
  | _ => True
def digI (n : Nat) : Int := if 48 ≤ n ∧ n ≤ 57 then (n : Int) - 48 else if 97 ≤ n ∧ n ≤ 102 then (n : Int) - 87 else -1
theorem digI_lt (n : Nat) : -1 ≤ digI n ∧ digI n < 16 := by unfold digI; split; omega; split <;> omega
theorem ib_dig (c : UInt8) : strings_IndexByte.f (⟨#[48, 49, 50, 51, 52, 53, 54, 55, 56, 57, 97, 98, 99, 100, 101, 102]⟩ : ByteArray) (c.toNat : Int) = some (digI c.toNat) := by
  have H : ∀ n : Nat, n < 256 → Lib.indexByte [48, 49, 50, 51, 52, 53, 54, 55, 56, 57, 97, 98, 99, 100, 101, 102] ((n : Nat) : Int).toNat.toUInt8 = digI n := by decide +kernel
  unfold strings_IndexByte.f
  exact congrArg some (H c.toNat c.toNat_lt)
theorem digit_ends (n : Nat) (h : n < 256) : Ends (fun k => arboristref01_digit.f k (n : Int)) (digI n) := by
  unfold arboristref01_digit.f
  by_cases h1 : 48 ≤ n
  · refine Ends.pos (by omega) (Ends.step (fun k => arboristref01_digit.j0.eq_2 ..) ?_)
    by_cases h2 : n ≤ 57
    · refine Ends.pos (by simp; omega) ((Ends.const _).val ?_)
      unfold digI; rw [if_pos ⟨h1, h2⟩]; omega
    · refine Ends.neg (by simp; omega) ?_
      by_cases h3 : 97 ≤ n
      · refine Ends.pos (by omega) ?_
        by_cases h4 : n ≤ 102
        · refine Ends.pos (by omega) ((Ends.const _).val ?_)
          unfold digI; rw [if_neg (by omega), if_pos ⟨h3, h4⟩]; omega
        · refine Ends.neg (by omega) ((Ends.const _).val ?_)
          unfold digI; rw [if_neg (by omega), if_neg (by omega)]
      · refine Ends.neg (by omega) ((Ends.const _).val ?_)
        unfold digI; rw [if_neg (by omega), if_neg (by omega)]
  · refine Ends.neg (by omega) (Ends.step (fun k => arboristref01_digit.j0.eq_2 ..) (Ends.neg (by decide) (Ends.neg (by omega) ((Ends.const _).val ?_))))
    unfold digI; rw [if_neg (by omega), if_neg (by omega)]
theorem drop_app {T R : List UInt8} {i : Nat} {c : UInt8} {t : List UInt8} (h : T.drop i = c :: t) : (T ++ R).drop i = c :: (t ++ R) := by
  have hi := (drop_cons h).1
  rw [List.drop_append_of_le_length (by omega), h]
  rfl
theorem drop_end {T R : List UInt8} {i : Nat} (h : T.drop i = []) (hi : i ≤ T.length) : i = T.length ∧ (T ++ R).drop i = R := by
  have := drop_nil h
  have e : i = T.length := by omega
  subst e
  exact ⟨rfl, by simp⟩
theorem braced_fin (T R : List UInt8) (hT : ∀ c ∈ T, c ≠ 10) (hR : Behind R) (least : Nat) (hl : least ≤ 6) (n i : Nat) (hn : n < 16777216) (hi : i ≤ T.length) (h1 : 1 ≤ i) (h7 : i ≤ 7) :
    ∃ b : BR, b.Fine T.length ∧ Ends (fun k => text_braced.j2 k (ba T) (least : Int) (n : Int) (i : Int)) b.t ∧ Ends (fun k => arboristref01_braced.j1 k (ba (T ++ R)) (least : Int) (n : Int) (i : Int)) b.r := by
  have n1 : i + 1 ≤ 4294967296 := by omega
  have n2 : i - 1 ≤ 4294967296 := by omega
  have i0 : (0 : Int) ≤ (i : Int) := by omega
  rcases hd : T.drop i with _ | ⟨c, t⟩
  · obtain ⟨he, hd2⟩ := drop_end (R := R) hd hi
    refine ⟨.un, trivial, ?_, ?_⟩
    · refine Ends.step (fun k => text_braced.j2.eq_2 ..) (Ends.pos (by rw [ba_size, he]) (Ends.const _))
    · refine Ends.step (fun k => arboristref01_braced.j1.eq_2 ..) ?_
      rcases hR with rfl | ⟨r, rfl⟩
      · exact Ends.pos (by rw [ba_size, he]; simp) (Ends.const _)
      · obtain ⟨s1, s2⟩ := bt_ba hd2
        exact Ends.neg (by omega) (Ends.pos i0 (Ends.pos (by omega) (Ends.pos s2 (Ends.const _))))
  · obtain ⟨s1, s2⟩ := bt_ba hd
    obtain ⟨s3, s4⟩ := bt_ba (drop_app (R := R) hd)
    have hc : c ≠ 10 := hT c (by have : c ∈ T.drop i := by rw [hd]; exact List.mem_cons_self
                                 exact List.mem_of_mem_drop this)
    have hc' : ¬ (bt (ba (T ++ R)) (i : Int)) = 10 := by
      rw [s4]; intro q; apply hc; have : c.toNat = 10 := by omega
      exact UInt8.toNat_inj.1 this
    have a1 : ¬ (i : Int) = ((ba T).size : Int) := by omega
    have a2 : (i : Int) < ((ba T).size : Int) := by omega
    have a3 : ¬ (i : Int) = ((ba (T ++ R)).size : Int) := by omega
    have a4 : (i : Int) < ((ba (T ++ R)).size : Int) := by omega
    have a5 : i + 1 ≤ T.length := by rw [ba_size] at s1; omega
    by_cases h125 : c.toNat = 125
    · have b1 : bt (ba T) (i : Int) = 125 := by rw [s2]; omega
      have b2 : bt (ba (T ++ R)) (i : Int) = 125 := by rw [s4]; omega
      by_cases hle : i ≤ least
      · refine ⟨.fo, trivial, ?_, ?_⟩
        · exact Ends.step (fun k => text_braced.j2.eq_2 ..) (Ends.neg a1 (Ends.pos i0 (Ends.pos a2 (Ends.pos b1 (Ends.pos (by omega) (Ends.const _))))))
        · have hle2 : ((i - 1 : Nat) : Int) < (least : Int) := by omega
          have ew : wrap64 ((i : Int) - 1) = ((i - 1 : Nat) : Int) := (congrArg wrap64 (by omega)).trans (wrap_nat _ n2)
          exact Ends.step (fun k => arboristref01_braced.j1.eq_2 ..) (Ends.neg a3 (Ends.pos i0 (Ends.pos a4 (Ends.neg hc' (Ends.pos b2 (Ends.pos (by rw [ew]; exact hle2) (Ends.const _)))))))
      · refine ⟨.ok n (i + 1), ⟨hn, by omega, by omega, by omega⟩, ?_, ?_⟩
        · have hle1 : ¬ ((i : Int) ≤ (least : Int)) := by omega
          have ew : wrap64 ((i : Int) + 1) = ((i + 1 : Nat) : Int) := (congrArg wrap64 (by push_cast; rfl)).trans (wrap_nat _ n1)
          refine Ends.step (fun k => text_braced.j2.eq_2 ..) ?_
          rw [ew]
          exact Ends.neg a1 (Ends.pos i0 (Ends.pos a2 (Ends.pos b1 (Ends.neg hle1 (Ends.const _)))))
        · have hle2 : ¬ (((i - 1 : Nat) : Int) < (least : Int)) := by omega
          have ew : wrap64 ((i : Int) - 1) = ((i - 1 : Nat) : Int) := (congrArg wrap64 (by omega)).trans (wrap_nat _ n2)
          have ew2 : wrap64 ((i : Int) + 1) = ((i + 1 : Nat) : Int) := (congrArg wrap64 (by push_cast; rfl)).trans (wrap_nat _ n1)
          refine Ends.step (fun k => arboristref01_braced.j1.eq_2 ..) ?_
          rw [ew, ew2]
          exact Ends.neg a3 (Ends.pos i0 (Ends.pos a4 (Ends.neg hc' (Ends.pos b2 (Ends.neg hle2 (Ends.const _))))))
    · refine ⟨.fo, trivial, ?_, ?_⟩
      · exact Ends.step (fun k => text_braced.j2.eq_2 ..) (Ends.neg a1 (Ends.pos i0 (Ends.pos a2 (Ends.neg (by rw [s2]; omega) (Ends.const _)))))
      · exact Ends.step (fun k => arboristref01_braced.j1.eq_2 ..) (Ends.neg a3 (Ends.pos i0 (Ends.pos a4 (Ends.neg hc' (Ends.neg (by rw [s4]; omega) (Ends.const _))))))
theorem braced_go (T R : List UInt8) (hT : ∀ c ∈ T, c ≠ 10) (hR : Behind R) (least most : Nat) (hl : least ≤ 6) (hm : most ≤ 6) : ∀ (d n i : Nat), T.length ≤ i + d → i ≤ T.length → 1 ≤ i → i ≤ most + 1 → n < 16 ^ (i - 1) →
    ∃ b : BR, b.Fine T.length ∧ Ends (fun k => text_braced.l0 k (ba T) (least : Int) (most : Int) (n : Int) (i : Int)) b.t ∧ Ends (fun k => arboristref01_braced.l0 k (ba (T ++ R)) (least : Int) (most : Int) (n : Int) (i : Int)) b.r := by
  intro d
  induction d with
  | zero =>
    intro n i hd hi h1 h2 h3
    have hp6 : (16 : Nat) ^ (i - 1) ≤ 16 ^ 6 := Nat.pow_le_pow_right (by omega) (by omega)
    have h66 : (16 : Nat) ^ 6 = 16777216 := by decide
    have hn : n < 16777216 := by omega
    clear h3 hp6 h66
    obtain ⟨b, hf, ht, hr⟩ := braced_fin T R hT hR least hl n i hn hi h1 (by omega)
    refine ⟨b, hf, ?_, ?_⟩
    · exact Ends.step (fun k => text_braced.l0.eq_2 ..) (Ends.neg (by rw [ba_size]; omega) (Ends.step (fun k => text_braced.j1.eq_2 ..) (Ends.neg (by decide) ht)))
    · refine Ends.step (fun k => arboristref01_braced.l0.eq_2 ..) ?_
      obtain ⟨he, hd2⟩ := drop_end (R := R) (show T.drop i = [] from List.drop_of_length_le (by omega)) hi
      rcases hR with rfl | ⟨r, rfl⟩
      · exact Ends.neg (by rw [ba_size]; simp; omega) hr
      · obtain ⟨s1, s2⟩ := bt_ba hd2
        refine Ends.pos (by omega) ?_
        by_cases hle : i ≤ most
        · refine Ends.pos (by omega) (Ends.pos (by omega) ?_)
          rw [s2]
          exact Ends.bind (digit_ends 10 (by omega)) (Ends.neg (by decide) hr)
        · exact Ends.neg (by omega) hr
  | succ d ih =>
    intro n i hd hi h1 h2 h3
    have hp6 : (16 : Nat) ^ (i - 1) ≤ 16 ^ 6 := Nat.pow_le_pow_right (by omega) (by omega)
    have h66 : (16 : Nat) ^ 6 = 16777216 := by decide
    have hn : n < 16777216 := by omega
    have H3 := Aside0.mk h3
    clear h3 hp6 h66
    obtain ⟨b, hf, ht, hr⟩ := braced_fin T R hT hR least hl n i hn hi h1 (by omega)
    rcases hdr : T.drop i with _ | ⟨c, t⟩
    · obtain ⟨he, hd2⟩ := drop_end (R := R) hdr hi
      refine ⟨b, hf, ?_, ?_⟩
      · exact Ends.step (fun k => text_braced.l0.eq_2 ..) (Ends.neg (by rw [ba_size]; omega) (Ends.step (fun k => text_braced.j1.eq_2 ..) (Ends.neg (by decide) ht)))
      · refine Ends.step (fun k => arboristref01_braced.l0.eq_2 ..) ?_
        rcases hR with rfl | ⟨r, rfl⟩
        · exact Ends.neg (by rw [ba_size]; simp; omega) hr
        · obtain ⟨s1, s2⟩ := bt_ba hd2
          refine Ends.pos (by omega) ?_
          by_cases hle : i ≤ most
          · refine Ends.pos (by omega) (Ends.pos (by omega) ?_)
            rw [s2]
            exact Ends.bind (digit_ends 10 (by omega)) (Ends.neg (by decide) hr)
          · exact Ends.neg (by omega) hr
    · obtain ⟨s1, s2⟩ := bt_ba hdr
      obtain ⟨s3, s4⟩ := bt_ba (drop_app (R := R) hdr)
      have a2 : (i : Int) < ((ba T).size : Int) := by omega
      have a4 : (i : Int) < ((ba (T ++ R)).size : Int) := by omega
      have i0 : (0 : Int) ≤ (i : Int) := by omega
      have hiT : i + 1 ≤ T.length := by rw [ba_size] at s1; omega
      have hdI := digI_lt c.toNat
      by_cases hle : i ≤ most
      · have hle' : (i : Int) ≤ (most : Int) := by omega
        by_cases hdg : digI c.toNat < 0
        · refine ⟨b, hf, ?_, ?_⟩
          · refine Ends.step (fun k => text_braced.l0.eq_2 ..) (Ends.pos a2 (Ends.step (fun k => text_braced.j1.eq_2 ..) (Ends.pos (by simpa using hle') (Ends.pos i0 (Ends.pos a2 (Ends.bind0 (by rw [s2]; exact ib_dig c) (Ends.pos hdg ht)))))))
          · refine Ends.step (fun k => arboristref01_braced.l0.eq_2 ..) (Ends.pos a4 (Ends.pos hle' (Ends.pos i0 ?_)))
            rw [s4]
            exact Ends.bind (digit_ends c.toNat c.toNat_lt) (Ends.neg (by omega) hr)
        · obtain ⟨dv, hdv⟩ : ∃ dv : Nat, digI c.toNat = (dv : Int) := ⟨(digI c.toNat).toNat, by omega⟩
          have hdv16 : dv < 16 := by omega
          have n1 : 16 * n ≤ 4294967296 := by omega
          have n2 : 16 * n + dv ≤ 4294967296 := by omega
          have n3 : i + 1 ≤ 4294967296 := by omega
          have g0 : (dv : Int) ≥ 0 := by omega
          have g1 : ¬ ((dv : Int) < 0) := by omega
          obtain ⟨b', hf', ht', hr'⟩ := ih (16 * n + dv) (i + 1) (by omega) hiT (by omega) (by omega) (by
            have h4 := H3.out
            obtain ⟨j, rfl⟩ : ∃ j, i = j + 1 := ⟨i - 1, by omega⟩
            simp only [Nat.add_sub_cancel] at h4 ⊢
            rw [Nat.pow_succ]; omega)
          have DG := Aside0.mk hdv
          clear hdg hdI hdv
          have e1 : wrap64 (16 * (n : Int)) = ((16 * n : Nat) : Int) := (congrArg wrap64 (by push_cast; rfl)).trans (wrap_nat _ n1)
          have e2 : wrap64 (((16 * n : Nat) : Int) + (dv : Int)) = ((16 * n + dv : Nat) : Int) := (congrArg wrap64 (by push_cast; rfl)).trans (wrap_nat _ n2)
          have e3 : wrap64 ((i : Int) + 1) = ((i + 1 : Nat) : Int) := (congrArg wrap64 (by push_cast; rfl)).trans (wrap_nat _ n3)
          refine ⟨b', hf', ?_, ?_⟩
          · refine Ends.step (fun k => text_braced.l0.eq_2 ..) (Ends.pos a2 (Ends.step (fun k => text_braced.j1.eq_2 ..) (Ends.pos (by simpa using hle') (Ends.pos i0 (Ends.pos a2 (Ends.bind0 (a := (dv : Int)) (by rw [s2, ← DG.out]; exact ib_dig c) (Ends.neg g1 ?_)))))))
            rw [e1, e2, e3]
            exact ht'
          · refine Ends.step (fun k => arboristref01_braced.l0.eq_2 ..) (Ends.pos a4 (Ends.pos hle' (Ends.pos i0 ?_)))
            rw [s4]
            have hdE : Ends (fun k => arboristref01_digit.f k (c.toNat : Int)) (dv : Int) := (digit_ends c.toNat c.toNat_lt).val DG.out
            refine Ends.bind hdE (Ends.pos g0 (Ends.bind hdE ?_))
            rw [e1, e2, e3]
            exact hr'
      · refine ⟨b, hf, ?_, ?_⟩
        · exact Ends.step (fun k => text_braced.l0.eq_2 ..) (Ends.pos a2 (Ends.step (fun k => text_braced.j1.eq_2 ..) (Ends.neg (by simp; omega) ht)))
        · exact Ends.step (fun k => arboristref01_braced.l0.eq_2 ..) (Ends.pos a4 (Ends.neg (by omega) hr))
theorem braced_both (T R : List UInt8) (hT : ∀ c ∈ T, c ≠ 10) (hR : Behind R) (hTR : T ≠ [] ∨ R = []) (least most : Nat) (hl : least ≤ 6) (hm : most ≤ 6) :
    ∃ b : BR, b.Fine T.length ∧ Ends (fun k => text_braced.f k (ba T) (least : Int) (most : Int)) b.t ∧ Ends (fun k => arboristref01_braced.f k (ba (T ++ R)) (least : Int) (most : Int)) b.r := by
  unfold text_braced.f arboristref01_braced.f
  simp only [ByteArray.toList_eq, ba_list]
  rcases T with _ | ⟨c, t⟩
  · rcases hTR with h | rfl
    · exact absurd rfl h
    · exact ⟨.un, trivial, Ends.pos rfl (Ends.const _), Ends.pos rfl (Ends.const _)⟩
  · obtain ⟨s1, s2⟩ := bt_ba (l := c :: t) (i := 0) rfl
    obtain ⟨s3, s4⟩ := bt_ba (l := (c :: t) ++ R) (i := 0) rfl
    have t2 : bt (ba (c :: t)) 0 = (c.toNat : Int) := s2
    have t4 : bt (ba (c :: t ++ R)) 0 = (c.toNat : Int) := s4
    have a1 : 0 < ((ba (c :: t)).size : Int) := by omega
    have a2 : 0 < ((ba (c :: t ++ R)).size : Int) := by omega
    by_cases h : c.toNat = 123
    · obtain ⟨b, hf, ht, hr⟩ := braced_go (c :: t) R hT hR least most hl hm (c :: t).length 0 1 (by omega) (by simp) (by omega) (by omega) (by simp)
      exact ⟨b, hf, Ends.neg (by simp) (Ends.pos a1 (Ends.pos (by rw [t2]; omega) ht)), Ends.neg (by simp) (Ends.pos a2 (Ends.pos (by rw [t4]; omega) hr))⟩
    · exact ⟨.fo, trivial, Ends.neg (by simp) (Ends.pos a1 (Ends.neg (by rw [t2]; omega) (Ends.const _))), Ends.neg (by simp) (Ends.pos a2 (Ends.neg (by rw [t4]; omega) (Ends.const _)))⟩
end Go.Proofs.YthijdjpipjbkbaaDoor.H
end
section
namespace Go.Proofs.YthijdjpipjbkbaaDoor.H
open Go.RowKit Go.Proofs.YthijdjpipjbkbaaDoorW.PrintWords Go.Proofs.YthijdjpipjbkbaaDoorW.PrintLast Go.Proofs.YthijdjpipjbkbaaDoorW.PrintMore
set_option linter.unusedVariables false
set_option linter.unusedSimpArgs false
inductive ER where
  | un : ER
  | fo : ER
  | ok : List UInt8 → Nat → ER
def ER.t : ER → ByteArray × Int
  | .un => (⟨#[]⟩, -1)
  | .fo => (⟨#[]⟩, 0)
  | .ok d len => (ba d, (len : Int))
def ER.Is : ER → ByteArray × Int × Int → Prop
  | .un, v => v.2.2 = 13
  | .fo, v => v.2.2 = 3
  | .ok d len, v => v = (ba d, (len : Int), 0)
def ER.Fine (m : Nat) : ER → Prop
  | .ok d len => d.length ≤ 4 ∧ 1 ≤ len ∧ len ≤ m ∧ len ≤ 9
  | _ => True
theorem ib_none (c : UInt8) (h : c.toNat ≠ 34 ∧ c.toNat ≠ 92 ∧ c.toNat ≠ 110 ∧ c.toNat ≠ 114 ∧ c.toNat ≠ 116) : Lib.indexByte [34, 92, 110, 114, 116] c = -1 := by
  have H : ∀ n : Nat, n < 256 → (n ≠ 34 ∧ n ≠ 92 ∧ n ≠ 110 ∧ n ≠ 114 ∧ n ≠ 116) → Lib.indexByte [34, 92, 110, 114, 116] n.toUInt8 = -1 := by decide +kernel
  have e : c.toNat.toUInt8 = c := by simp [Nat.toUInt8]
  have := H c.toNat c.toNat_lt h
  rwa [e] at this
theorem valid_not (r : Nat) (h : ¬ (r < 55296 ∨ (57343 < r ∧ r ≤ 1114111))) : Ends (fun k => utf8_ValidRune.f k (r : Int)) false := by
  unfold utf8_ValidRune.f
  refine Ends.pos (by omega) (Ends.step (fun k => utf8_ValidRune.j0.eq_2 ..) ?_)
  refine Ends.neg (by simp; omega) ?_
  by_cases q : 57343 < (r : Int)
  · exact Ends.pos q (Ends.neg (by omega) (Ends.const _))
  · exact Ends.neg q (Ends.const _)
theorem byte_eq {c : UInt8} {n : Nat} (hn : n < 256) (h : c.toNat = n) : c = n.toUInt8 := by
  subst h; simp [Nat.toUInt8]
theorem esc_bx (t R : List UInt8) (hT : ∀ c ∈ t, c ≠ 10) (hR : Behind R) (hb : bt (ba (120 :: t)) 0 = 120) (hb' : bt (ba (120 :: t ++ R)) 0 = 120) :
    ∃ b : ER, b.Fine (t.length + 1) ∧ Ends (fun k => text_escape.f k (ba (120 :: t))) b.t ∧ ∃ v, b.Is v ∧ Ends (fun k => arboristref01_escape.f k (ba (120 :: t ++ R))) v := by
  have s0 : 0 < ((ba (120 :: t)).size : Int) := by rw [ba_size]; simp
  have s1 : 1 ≤ ((ba (120 :: t)).size : Int) := by omega
  have r0 : 0 < ((ba (120 :: t ++ R)).size : Int) := by rw [ba_size]; simp; omega
  have r1 : 1 ≤ ((ba (120 :: t ++ R)).size : Int) := by omega
  have txt : ∀ v, Ends (fun k => (text_braced.f k (ba t) 2 2).bind fun bt103 => (if bt103.2 < 1 then (some ((⟨#[]⟩ : ByteArray), bt103.2)) else (some (strOfNums (([(bt103.1) % 256] : List Int)), wrap64 (1 + bt103.2))))) v → Ends (fun k => text_escape.f k (ba (120 :: t))) v := by
    intro v hv
    unfold text_escape.f
    refine Ends.neg (by rw [ByteArray.toList_eq, ba_list]; simp) (Ends.pos s0 (Ends.bind0 (a := -1) (by rw [hb]; decide) (Ends.neg (by decide) (Ends.pos hb ?_))))
    refine Ends.step (fun k => text_escape.j0.eq_2 ..) (Ends.pos s1 ?_)
    rw [ba_drop]
    simpa using hv
  have head : ∀ v, Ends (fun k => if ((ba (120 :: t ++ R)).size : Int) > 1 then (if 1 < ((ba (120 :: t ++ R)).size : Int) then (if (bt (ba (120 :: t ++ R)) 1) = 10 then (some ((⟨#[]⟩ : ByteArray), 0, 13)) else (if 1 ≤ ((ba (120 :: t ++ R)).size : Int) then ((arboristref01_braced.f k ((ba (120 :: t ++ R)).extract 1 (ba (120 :: t ++ R)).size) 2 2).bind fun bt215 => (some (strOfNums (([(bt215.1) % 256] : List Int)), wrap64 (1 + bt215.2.1), bt215.2.2))) else (none))) else (none)) else (if 1 ≤ ((ba (120 :: t ++ R)).size : Int) then ((arboristref01_braced.f k ((ba (120 :: t ++ R)).extract 1 (ba (120 :: t ++ R)).size) 2 2).bind fun bt221 => (some (strOfNums (([(bt221.1) % 256] : List Int)), wrap64 (1 + bt221.2.1), bt221.2.2))) else (none))) v → Ends (fun k => arboristref01_escape.f k (ba (120 :: t ++ R))) v := by
    intro v hv
    unfold arboristref01_escape.f
    refine Ends.neg (by rw [ByteArray.toList_eq, ba_list]; simp) (Ends.pos r0 (Ends.step (fun k => arboristref01_escape.j0.eq_2 ..) (Ends.neg (by rw [hb']; decide) (Ends.pos r0 (Ends.neg (by rw [hb']; decide) (Ends.step (fun k => arboristref01_escape.j1.eq_2 ..) (Ends.neg (by rw [hb']; decide) ?_)))))))
    refine Ends.neg (by rw [hb']; decide) (Ends.neg (by rw [hb']; decide) (Ends.neg (by rw [hb']; decide) (Ends.pos hb' ?_)))
    exact hv
  have tail : (t ≠ [] ∨ R = []) → ∃ b : ER, b.Fine (t.length + 1) ∧ Ends (fun k => text_escape.f k (ba (120 :: t))) b.t ∧ ∃ v, b.Is v ∧ Ends (fun k => (arboristref01_braced.f k (ba (t ++ R)) 2 2).bind fun bt215 => (some (strOfNums (([(bt215.1) % 256] : List Int)), wrap64 (1 + bt215.2.1), bt215.2.2))) v := by
    intro hTR
    obtain ⟨b, hf, ht, hr⟩ := braced_both t R hT hR hTR 2 2 (by omega) (by omega)
    cases b with
    | un => exact ⟨.un, trivial, txt _ (Ends.bind ht (Ends.pos (by decide) (Ends.const _))), (_, _, 13), rfl, Ends.bind hr (Ends.const _)⟩
    | fo => exact ⟨.fo, trivial, txt _ (Ends.bind ht (Ends.pos (by decide) (Ends.const _))), (_, _, 3), rfl, Ends.bind hr (Ends.const _)⟩
    | ok n len =>
      obtain ⟨f1, f2, f3, f4⟩ := hf
      have n1 : len + 1 ≤ 4294967296 := by omega
      have ew : wrap64 (1 + (len : Int)) = ((len + 1 : Nat) : Int) := (congrArg wrap64 (by push_cast; omega)).trans (wrap_nat _ n1)
      have em : (n : Int) % 256 = ((n % 256 : Nat) : Int) := by omega
      have hge : ¬ ((len : Int) < 1) := by omega
      have EW := Aside0.mk ew
      clear ew
      refine ⟨.ok [(n % 256).toUInt8] (len + 1), ⟨by simp, by omega, by omega, by omega⟩, txt _ (Ends.bind ht (Ends.neg hge ?_)), _, rfl, Ends.bind hr ?_⟩
      · simp only [BR.t, em, EW.out]
        exact Ends.const _
      · simp only [BR.r, em, EW.out]
        exact Ends.const _
  rcases t with _ | ⟨c2, t2⟩
  · rcases hR with rfl | ⟨r, rfl⟩
    · obtain ⟨b, hf, ht, v, hv, hr⟩ := tail (.inr rfl)
      refine ⟨b, hf, ht, v, hv, head v (Ends.neg (by rw [ba_size]; simp) (Ends.pos r1 ?_))⟩
      rw [ba_drop]
      exact hr
    · obtain ⟨q1, q2⟩ := bt_ba (l := [120] ++ 10 :: r) (i := 1) rfl
      have q2' : bt (ba ([120] ++ 10 :: r)) 1 = 10 := q2
      have q3 : 1 < ((ba ([120] ++ 10 :: r)).size : Int) := by omega
      refine ⟨.un, trivial, txt _ ?_, (⟨#[]⟩, 0, 13), rfl, head (⟨#[]⟩, 0, 13) (Ends.pos q3 (Ends.pos q3 (Ends.pos q2' (Ends.const _))))⟩
      obtain ⟨b, hf, ht, hr⟩ := braced_both [] [] (by simp) (.inl rfl) (.inr rfl) 2 2 (by omega) (by omega)
      have hb2 : Ends (fun k => text_braced.f k (ba []) 2 2) (0, -1) := by
        unfold text_braced.f
        exact Ends.pos (by simp [ByteArray.toList_eq, ba]) (Ends.const _)
      exact Ends.bind hb2 (Ends.pos (by decide) (Ends.const _))
  · obtain ⟨q1, q2⟩ := bt_ba (l := 120 :: c2 :: t2 ++ R) (i := 1) rfl
    have q2' : bt (ba (120 :: c2 :: t2 ++ R)) 1 = (c2.toNat : Int) := q2
    have q3 : 1 < ((ba (120 :: c2 :: t2 ++ R)).size : Int) := by omega
    have hc2 : c2.toNat ≠ 10 := fun e => hT c2 List.mem_cons_self (byte_eq (n := 10) (by omega) e)
    obtain ⟨b, hf, ht, v, hv, hr⟩ := tail (.inl (by simp))
    refine ⟨b, hf, ht, v, hv, head v (Ends.pos q3 (Ends.pos q3 (Ends.neg (by rw [q2']; omega) (Ends.pos r1 ?_))))⟩
    rw [ba_drop]
    exact hr
theorem esc_bu (t R : List UInt8) (hT : ∀ c ∈ t, c ≠ 10) (hR : Behind R) (hb : bt (ba (117 :: t)) 0 = 117) (hb' : bt (ba (117 :: t ++ R)) 0 = 117) :
    ∃ b : ER, b.Fine (t.length + 1) ∧ Ends (fun k => text_escape.f k (ba (117 :: t))) b.t ∧ ∃ v, b.Is v ∧ Ends (fun k => arboristref01_escape.f k (ba (117 :: t ++ R))) v := by
  have s0 : 0 < ((ba (117 :: t)).size : Int) := by rw [ba_size]; simp
  have s1 : 1 ≤ ((ba (117 :: t)).size : Int) := by omega
  have r0 : 0 < ((ba (117 :: t ++ R)).size : Int) := by rw [ba_size]; simp; omega
  have r1 : 1 ≤ ((ba (117 :: t ++ R)).size : Int) := by omega
  have txt : ∀ v, Ends (fun k => (text_braced.f k (ba t) 1 6).bind fun bt103 => (if bt103.2 < 1 then (some ((⟨#[]⟩ : ByteArray), bt103.2)) else ((utf8_ValidRune.f k (wrap32 (bt103.1))).bind fun t108 => (if t108 = true then (some ((Utf8.encode (wrap32 (bt103.1))), wrap64 (1 + bt103.2))) else (some ((⟨#[]⟩ : ByteArray), 0)))))) v → Ends (fun k => text_escape.f k (ba (117 :: t))) v := by
    intro v hv
    unfold text_escape.f
    refine Ends.neg (by rw [ByteArray.toList_eq, ba_list]; simp) (Ends.pos s0 (Ends.bind0 (a := -1) (by rw [hb]; decide) (Ends.neg (by decide) (Ends.neg (by rw [hb]; decide) (Ends.pos hb ?_)))))
    refine Ends.step (fun k => text_escape.j0.eq_2 ..) (Ends.pos s1 ?_)
    rw [ba_drop]
    simpa using hv
  have head : ∀ v, Ends (fun k => if ((ba (117 :: t ++ R)).size : Int) > 1 then (if 1 < ((ba (117 :: t ++ R)).size : Int) then (arboristref01_escape.j2 k (ba (117 :: t ++ R)) ((bt (ba (117 :: t ++ R)) 1) == 10)) else (none)) else (arboristref01_escape.j2 k (ba (117 :: t ++ R)) false)) v → Ends (fun k => arboristref01_escape.f k (ba (117 :: t ++ R))) v := by
    intro v hv
    unfold arboristref01_escape.f
    refine Ends.neg (by rw [ByteArray.toList_eq, ba_list]; simp) (Ends.pos r0 (Ends.step (fun k => arboristref01_escape.j0.eq_2 ..) (Ends.neg (by rw [hb']; decide) (Ends.pos r0 (Ends.neg (by rw [hb']; decide) (Ends.step (fun k => arboristref01_escape.j1.eq_2 ..) (Ends.neg (by rw [hb']; decide) ?_)))))))
    refine Ends.neg (by rw [hb']; decide) (Ends.neg (by rw [hb']; decide) (Ends.neg (by rw [hb']; decide) (Ends.neg (by rw [hb']; decide) (Ends.pos hb' ?_))))
    exact hv
  have tail : (t ≠ [] ∨ R = []) → ∃ b : ER, b.Fine (t.length + 1) ∧ Ends (fun k => text_escape.f k (ba (117 :: t))) b.t ∧ ∃ v, b.Is v ∧ Ends (fun k => arboristref01_escape.j2 k (ba (117 :: t ++ R)) false) v := by
    intro hTR
    obtain ⟨b, hf, ht, hr⟩ := braced_both t R hT hR hTR 1 6 (by omega) (by omega)
    have open2 : ∀ v, Ends (fun k => (arboristref01_braced.f k (ba (t ++ R)) 1 6).bind fun bt227 => (if bt227.2.2 = 0 then (if bt227.1 > 1114111 then (some ((Utf8.encode (wrap32 (bt227.1))), wrap64 (1 + bt227.2.1), 3)) else (if bt227.1 ≥ 55296 then (if bt227.1 ≤ 57343 then (some ((Utf8.encode (wrap32 (bt227.1))), wrap64 (1 + bt227.2.1), 3)) else (some ((Utf8.encode (wrap32 (bt227.1))), wrap64 (1 + bt227.2.1), bt227.2.2))) else (some ((Utf8.encode (wrap32 (bt227.1))), wrap64 (1 + bt227.2.1), bt227.2.2)))) else (some ((Utf8.encode (wrap32 (bt227.1))), wrap64 (1 + bt227.2.1), bt227.2.2)))) v → Ends (fun k => arboristref01_escape.j2 k (ba (117 :: t ++ R)) false) v := by
      intro v hv
      refine Ends.step (fun k => arboristref01_escape.j2.eq_2 ..) (Ends.neg (by decide) (Ends.pos r1 ?_))
      rw [ba_drop]
      exact hv
    cases b with
    | un => exact ⟨.un, trivial, txt _ (Ends.bind ht (Ends.pos (by decide) (Ends.const _))), (_, _, 13), rfl, open2 (_, _, 13) (Ends.bind hr (Ends.neg (by decide) (Ends.const _)))⟩
    | fo => exact ⟨.fo, trivial, txt _ (Ends.bind ht (Ends.pos (by decide) (Ends.const _))), (_, _, 3), rfl, open2 (_, _, 3) (Ends.bind hr (Ends.neg (by decide) (Ends.const _)))⟩
    | ok n len =>
      obtain ⟨f1, f2, f3, f4⟩ := hf
      have n1 : len + 1 ≤ 4294967296 := by omega
      have ew : wrap64 (1 + (len : Int)) = ((len + 1 : Nat) : Int) := (congrArg wrap64 (by push_cast; omega)).trans (wrap_nat _ n1)
      have hw : wrap32 (n : Int) = (n : Int) := by unfold wrap32; omega
      have hge : ¬ ((len : Int) < 1) := by omega
      have EW := Aside0.mk ew
      have HW := Aside0.mk hw
      clear ew hw
      by_cases hv : n < 55296 ∨ (57343 < n ∧ n ≤ 1114111)
      · have hl2 := (Lib.runeCells_le (n : Int)).2
        rw [Lib.runeCells_length] at hl2
        refine ⟨.ok (Lib.encodeRune (n : Int)) (len + 1), ⟨by omega, by omega, by omega, by omega⟩, txt _ (Ends.bind ht (Ends.neg hge ?_)), (ba (Lib.encodeRune (n : Int)), ((len + 1 : Nat) : Int), 0), rfl, open2 _ (Ends.bind hr (Ends.pos rfl ?_))⟩
        · simp only [BR.t, HW.out, EW.out]
          refine Ends.bind (valid_ends n hv) (Ends.pos rfl ?_)
          rw [encode_ba]
          exact Ends.const _
        · simp only [BR.r, HW.out, EW.out, encode_ba]
          refine Ends.neg (by omega) ?_
          by_cases q : (n : Int) ≥ 55296
          · exact Ends.pos q (Ends.neg (by omega) (Ends.const _))
          · exact Ends.neg q (Ends.const _)
      · refine ⟨.fo, trivial, txt _ (Ends.bind ht (Ends.neg hge ?_)), (Utf8.encode (n : Int), ((len + 1 : Nat) : Int), 3), rfl, open2 _ (Ends.bind hr (Ends.pos rfl ?_))⟩
        · simp only [BR.t, HW.out, EW.out]
          exact Ends.bind (valid_not n hv) (Ends.neg (by decide) (Ends.const _))
        · simp only [BR.r, HW.out, EW.out]
          by_cases q : (n : Int) > 1114111
          · exact Ends.pos q (Ends.const _)
          · exact Ends.neg q (Ends.pos (by omega) (Ends.pos (by omega) (Ends.const _)))
  rcases t with _ | ⟨c2, t2⟩
  · rcases hR with rfl | ⟨r, rfl⟩
    · obtain ⟨b, hf, ht, v, hv, hr⟩ := tail (.inr rfl)
      exact ⟨b, hf, ht, v, hv, head v (Ends.neg (by rw [ba_size]; simp) hr)⟩
    · obtain ⟨q1, q2⟩ := bt_ba (l := [117] ++ 10 :: r) (i := 1) rfl
      have q2' : bt (ba ([117] ++ 10 :: r)) 1 = 10 := q2
      have q3 : 1 < ((ba ([117] ++ 10 :: r)).size : Int) := by omega
      refine ⟨.un, trivial, txt _ ?_, (⟨#[]⟩, 0, 13), rfl, head (⟨#[]⟩, 0, 13) (Ends.pos q3 (Ends.pos q3 (Ends.step (fun k => arboristref01_escape.j2.eq_2 ..) (Ends.pos (by rw [q2']; decide) (Ends.const _)))))⟩
      have hb2 : Ends (fun k => text_braced.f k (ba []) 1 6) (0, -1) := by
        unfold text_braced.f
        exact Ends.pos (by simp [ByteArray.toList_eq, ba]) (Ends.const _)
      exact Ends.bind hb2 (Ends.pos (by decide) (Ends.const _))
  · obtain ⟨q1, q2⟩ := bt_ba (l := 117 :: c2 :: t2 ++ R) (i := 1) rfl
    have q2' : bt (ba (117 :: c2 :: t2 ++ R)) 1 = (c2.toNat : Int) := q2
    have q3 : 1 < ((ba (117 :: c2 :: t2 ++ R)).size : Int) := by omega
    have hc2 : c2.toNat ≠ 10 := fun e => hT c2 List.mem_cons_self (byte_eq (n := 10) (by omega) e)
    have e1 : (bt (ba (117 :: c2 :: t2 ++ R)) 1 == 10) = false := by rw [q2']; simp; omega
    obtain ⟨b, hf, ht, v, hv, hr⟩ := tail (.inl (by simp))
    refine ⟨b, hf, ht, v, hv, head v (Ends.pos q3 (Ends.pos q3 ?_))⟩
    rw [e1]
    exact hr
theorem escape_both (T R : List UInt8) (hT : ∀ c ∈ T, c ≠ 10) (hR : Behind R) :
    ∃ b : ER, b.Fine T.length ∧ Ends (fun k => text_escape.f k (ba T)) b.t ∧ ∃ v, b.Is v ∧ Ends (fun k => arboristref01_escape.f k (ba (T ++ R))) v := by
  rcases T with _ | ⟨c, t⟩
  · refine ⟨.un, trivial, ?_, (⟨#[]⟩, 0, 13), rfl, ?_⟩
    · unfold text_escape.f
      exact Ends.pos (by simp [ByteArray.toList_eq, ba]) (Ends.const _)
    · unfold arboristref01_escape.f
      rcases hR with rfl | ⟨r, rfl⟩
      · exact Ends.pos (by simp [ByteArray.toList_eq, ba]) (Ends.step (fun k => arboristref01_escape.j0.eq_2 ..) (Ends.pos rfl (Ends.const _)))
      · obtain ⟨q1, q2⟩ := bt_ba (l := [] ++ 10 :: r) (i := 0) rfl
        have q2' : bt (ba ([] ++ 10 :: r)) 0 = 10 := q2
        exact Ends.neg (by simp [ByteArray.toList_eq, ba]) (Ends.pos (by omega) (Ends.step (fun k => arboristref01_escape.j0.eq_2 ..) (Ends.pos (by rw [q2']; decide) (Ends.const _))))
  have hT' : ∀ c ∈ t, c ≠ 10 := fun x hx => hT x (List.mem_cons_of_mem _ hx)
  have hc10 : c.toNat ≠ 10 := fun e => hT c List.mem_cons_self (byte_eq (n := 10) (by omega) e)
  obtain ⟨p1, p2⟩ := bt_ba (l := c :: t) (i := 0) rfl
  obtain ⟨q1, q2⟩ := bt_ba (l := c :: t ++ R) (i := 0) rfl
  have hb : bt (ba (c :: t)) 0 = (c.toNat : Int) := p2
  have hb' : bt (ba (c :: t ++ R)) 0 = (c.toNat : Int) := q2
  have s0 : 0 < ((ba (c :: t)).size : Int) := by omega
  have r0 : 0 < ((ba (c :: t ++ R)).size : Int) := by omega
  have r1 : 1 ≤ ((ba (c :: t ++ R)).size : Int) := by omega
  clear p1 p2 q1 q2
  have cut : (ba (c :: t ++ R)).extract 0 1 = ba [c] := by
    refine ba_ext ?_
    rw [ba_list]
    simp [ba, ByteArray.data_extract]
  have one : ∀ d : UInt8, ER.Fine (c :: t).length (.ok [d] 1) := fun d => ⟨by simp, by omega, by simp, by omega⟩
  have ref : ∀ v, Ends (fun k => if bt (ba (c :: t ++ R)) 0 = 34 then (arboristref01_escape.j1 k (ba (c :: t ++ R)) (bt (ba (c :: t ++ R)) 0) ((bt (ba (c :: t ++ R)) 0) == 34)) else (arboristref01_escape.j1 k (ba (c :: t ++ R)) (bt (ba (c :: t ++ R)) 0) ((bt (ba (c :: t ++ R)) 0) == 92))) v → Ends (fun k => arboristref01_escape.f k (ba (c :: t ++ R))) v := by
    intro v hv
    unfold arboristref01_escape.f
    exact Ends.neg (by rw [ByteArray.toList_eq, ba_list]; simp) (Ends.pos r0 (Ends.step (fun k => arboristref01_escape.j0.eq_2 ..) (Ends.neg (by rw [hb']; simp; omega) (Ends.pos r0 hv))))
  by_cases h34 : c.toNat = 34
  · obtain rfl : c = 34 := byte_eq (n := 34) (by omega) h34
    refine ⟨.ok [34] 1, one _, esc_char 34 0 t 34 (by omega) (by decide) (by decide), _, rfl, ref _ (Ends.pos hb' (Ends.step (fun k => arboristref01_escape.j1.eq_2 ..) (Ends.pos (by rw [hb']; decide) (Ends.pos (by decide) (Ends.pos r1 ?_)))))⟩
    rw [cut]; exact Ends.const _
  by_cases h92 : c.toNat = 92
  · obtain rfl : c = 92 := byte_eq (n := 92) (by omega) h92
    refine ⟨.ok [92] 1, one _, esc_char 92 1 t 92 (by omega) (by decide) (by decide), _, rfl, ref _ (Ends.neg (by rw [hb']; decide) (Ends.step (fun k => arboristref01_escape.j1.eq_2 ..) (Ends.pos (by rw [hb']; decide) (Ends.pos (by decide) (Ends.pos r1 ?_)))))⟩
    rw [cut]; exact Ends.const _
  by_cases h110 : c.toNat = 110
  · obtain rfl : c = 110 := byte_eq (n := 110) (by omega) h110
    refine ⟨.ok [10] 1, one _, esc_char 110 2 t 10 (by omega) (by decide) (by decide), _, rfl, ref _ (Ends.neg (by rw [hb']; decide) (Ends.step (fun k => arboristref01_escape.j1.eq_2 ..) (Ends.neg (by rw [hb']; decide) (Ends.pos hb' (Ends.const _)))))⟩
  by_cases h114 : c.toNat = 114
  · obtain rfl : c = 114 := byte_eq (n := 114) (by omega) h114
    refine ⟨.ok [13] 1, one _, esc_char 114 3 t 13 (by omega) (by decide) (by decide), _, rfl, ref _ (Ends.neg (by rw [hb']; decide) (Ends.step (fun k => arboristref01_escape.j1.eq_2 ..) (Ends.neg (by rw [hb']; decide) (Ends.neg (by rw [hb']; decide) (Ends.pos hb' (Ends.const _))))))⟩
  by_cases h116 : c.toNat = 116
  · obtain rfl : c = 116 := byte_eq (n := 116) (by omega) h116
    refine ⟨.ok [9] 1, one _, esc_char 116 4 t 9 (by omega) (by decide) (by decide), _, rfl, ref _ (Ends.neg (by rw [hb']; decide) (Ends.step (fun k => arboristref01_escape.j1.eq_2 ..) (Ends.neg (by rw [hb']; decide) (Ends.neg (by rw [hb']; decide) (Ends.neg (by rw [hb']; decide) (Ends.pos hb' (Ends.const _)))))))⟩
  by_cases h120 : c.toNat = 120
  · obtain rfl : c = 120 := byte_eq (n := 120) (by omega) h120
    exact esc_bx t R hT' hR hb hb'
  by_cases h117 : c.toNat = 117
  · obtain rfl : c = 117 := byte_eq (n := 117) (by omega) h117
    exact esc_bu t R hT' hR hb hb'
  refine ⟨.fo, trivial, ?_, (⟨#[]⟩, 0, 3), rfl, ref _ (Ends.neg (by omega) (Ends.step (fun k => arboristref01_escape.j1.eq_2 ..) (Ends.neg (by rw [hb']; simp; omega) (Ends.neg (by omega) (Ends.neg (by omega) (Ends.neg (by omega) (Ends.neg (by omega) (Ends.neg (by omega) (Ends.const _)))))))))⟩
  unfold text_escape.f
  refine Ends.neg (by rw [ByteArray.toList_eq, ba_list]; simp) (Ends.pos s0 (Ends.bind0 (a := -1) (by rw [hb]; exact ib_esc c _ (ib_none c ⟨h34, h92, h110, h114, h116⟩)) (Ends.neg (by decide) (Ends.neg (by omega) (Ends.neg (by omega) (Ends.const _))))))
end Go.Proofs.YthijdjpipjbkbaaDoor.H
end
section
namespace Go.Proofs.YthijdjpipjbkbaaDoor.H
open Go.RowKit Go.Proofs.YthijdjpipjbkbaaDoorW.PrintWords Go.Proofs.YthijdjpipjbkbaaDoorW.PrintLast Go.Proofs.YthijdjpipjbkbaaDoorW.PrintMore
set_option linter.unusedVariables false
set_option linter.unusedSimpArgs false
theorem cut_line : ∀ l : List UInt8, (Lib.cut l [10]).1 = l.takeWhile (fun c => c != 10)
  | [] => rfl
  | b :: l => by
    have ih := cut_line l
    have hge := Lib.index_ge l [10]
    unfold Lib.cut at ih ⊢
    by_cases h : b = 10
    · subst h
      have hi : Lib.index (10 :: l) [10] = 0 := by rw [Lib.index, if_pos (by simp)]
      rw [hi]
      simp
    · have hb : ¬ List.isPrefixOf [10] (b :: l) = true := by
        simp only [List.isPrefixOf, Bool.and_true, beq_iff_eq]
        exact fun q => h q.symm
      have hi : Lib.index (b :: l) [10] = if (Lib.index l [10] == -1) = true then -1 else Lib.index l [10] + 1 := by rw [Lib.index, if_neg hb]
      rw [hi, List.takeWhile_cons_of_pos (by simpa using h)]
      by_cases q : Lib.index l [10] = -1
      · have q1 : (Lib.index l [10] == -1) = true := by simpa using q
        have q2 : ¬ 0 ≤ Lib.index l [10] := by omega
        rw [if_pos q1, if_neg (by decide)]
        rw [if_neg q2] at ih
        exact congrArg (List.cons b) ih
      · have q1 : ¬ (Lib.index l [10] == -1) = true := by simpa using q
        have q2 : 0 ≤ Lib.index l [10] := by omega
        rw [if_neg q1, if_pos (by omega)]
        rw [if_pos q2] at ih
        show List.take _ _ = _
        rw [show (Lib.index l [10] + 1).toNat = (Lib.index l [10]).toNat + 1 by omega, List.take_succ_cons]
        exact congrArg (List.cons b) ih
theorem lineOf_eq (s : ByteArray) : lineOf s = ba (s.data.toList.takeWhile (fun c => c != 10)) := ba_ext (by unfold lineOf; rw [cut_line, ba_list])
theorem dec_ascii {L : List UInt8} {p : Nat} {c : UInt8} {t : List UInt8} (h : L.drop p = c :: t) (hc : c.toNat < 128) : p < (ba L).size ∧ Utf8.decode (ba L) p = (c.toNat, 1) := by
  obtain ⟨hi, _, hg⟩ := drop_cons h
  have hs : p < (ba L).size := by rw [ba_size]; exact hi
  have e : (ba L)[p]'hs = c := by
    have hl := List.getElem?_eq_getElem hi
    have h0 := hg 0
    rw [List.getD_eq_getElem?_getD, hl] at h0
    rw [← h0]; rfl
  exact ⟨hs, by have := decode_ascii (ba L) p hs (by rw [e]; exact hc); rw [this, e]⟩
theorem line_byte {T : List UInt8} (hT : ∀ c ∈ T, c ≠ 10) (p : Nat) (hp : p < T.length) (hr : (Utf8.decode (ba T) p).1 = 10) : False := by
  have hs : p < (ba T).size := by rw [ba_size]; exact hp
  obtain ⟨h1, h2⟩ := rune_ascii hs (by omega)
  have h3 := byte_drop (ba T) p hs
  rw [ba_list] at h3
  have hc : ((ba T)[p]'hs).toNat = 10 := by rw [h1] at hr; exact hr
  have : (ba T)[p]'hs ∈ T.drop p := by rw [h3]; exact List.mem_cons_self
  exact hT _ (List.mem_of_mem_drop this) (byte_eq (n := 10) (by omega) hc)
theorem unquote_both (T R : List UInt8) (hT : ∀ c ∈ T, c ≠ 10) (hR : Behind R) (hn : T.length ≤ 1000000) : ∀ (d p : Nat) (acc : List UInt8), T.length ≤ p + d → p ≤ T.length → acc.length ≤ 4 * p →
    ∃ v, Ends (fun k => text_Unquote.l0 k (ba T) acc p) v ∧ Ends (fun k => arboristref01_Unquote.l0 k (ba (T ++ R)) (ba acc) (p : Int)) v := by
  have last : ∀ (p : Nat) (acc : List UInt8), p = T.length → ∃ v, Ends (fun k => text_Unquote.l0 k (ba T) acc p) v ∧ Ends (fun k => arboristref01_Unquote.l0 k (ba (T ++ R)) (ba acc) (p : Int)) v := by
    intro p acc e
    refine ⟨(⟨#[]⟩, 0, 13), Ends.step (fun k => text_Unquote.l0.eq_2 ..) (Ends.neg (by rw [ba_size]; omega) (Ends.const _)), Ends.step (fun k => arboristref01_Unquote.l0.eq_2 ..) ?_⟩
    rcases hR with rfl | ⟨r, rfl⟩
    · exact Ends.neg (by rw [ba_size]; simp; omega) (Ends.const _)
    · have hd : (T ++ 10 :: r).drop p = 10 :: r := by subst e; simp
      obtain ⟨s1, s2⟩ := dec_ascii hd (by decide)
      refine Ends.pos (by omega) (Ends.pos (by omega) (Ends.pos (by omega) (Ends.bind0 (by rw [Int.toNat_natCast]; exact one_tail _ p s1) ?_)))
      rw [s2]
      exact Ends.neg (by decide) (Ends.pos (by decide) (Ends.const _))
  intro d
  induction d with
  | zero => intro p acc h1 h2 h3; exact last p acc (by omega)
  | succ d ih =>
    intro p acc h1 h2 h3
    by_cases hp : p < T.length
    case neg => exact last p acc (by omega)
    have hs : p < (ba T).size := by rw [ba_size]; exact hp
    have hs2 : p < (ba (T ++ R)).size := by rw [ba_size, List.length_append]; omega
    have w1 := rune_w_pos (ba T) p
    have w2 := rune_w_le (ba T) p hs
    have h10 : (Utf8.decode (ba T) p).1 ≠ 10 := fun e => line_byte hT p hp e
    have hdrop := byte_drop (ba T) p hs
    have hasc := fun q => rune_ascii (s := ba T) (pos := p) hs q
    have henc : ¬ ((Utf8.decode (ba T) p).1 = 65533 ∧ (Utf8.decode (ba T) p).2 = 1) → Lib.encodeRune ((Utf8.decode (ba T) p).1 : Int) = (T.drop p).take (Utf8.decode (ba T) p).2 := fun q => by
      have e : Lib.decodeL (T.drop p) = Utf8.decode (ba T) p := by
        have h1 := Lib.tail_decode (ba T) p 0
        rw [ba_drop] at h1
        exact h1
      have h3 := Lib.encode_decode (T.drop p) (by rw [ba_list] at hdrop; rw [hdrop]; simp) (by rw [e]; exact q)
      rw [e] at h3
      exact h3
    have hone := one_tail (ba (T ++ R)) p hs2
    rw [decode_line T R hR p hp] at hone
    rw [ba_size] at w2
    obtain ⟨r, hr⟩ : ∃ r, (Utf8.decode (ba T) p).1 = r := ⟨_, rfl⟩
    obtain ⟨wd, hw⟩ : ∃ wd, (Utf8.decode (ba T) p).2 = wd := ⟨_, rfl⟩
    have hrl := Lib.rune_le (ba T) p
    rw [hr] at h10 hasc henc hone hrl
    rw [hw] at w1 w2 henc hone
    have n1 : p + 1 ≤ 4294967296 := by omega
    have n2 : p + wd ≤ 4294967296 := by omega
    have TX : ∀ v, Ends (fun k => if r = 34 then some ((⟨acc.toArray⟩ : ByteArray), (p : Int) + 1, (0 : Int))
       else if r = 92 then (text_escape.f k (ba (T.drop (p + 1)))).bind fun t =>
         if t.2 < 0 then some (⟨#[]⟩, 0, 13) else if t.2 = 0 then some (⟨#[]⟩, 0, 3)
         else if acc.length + t.1.size ≤ 140737488355000 then (if t.2 ≤ 4294967296 then text_Unquote.l0 k (ba T) (acc ++ t.1.data.toList) (p + (1 + t.2.toNat)) else none) else none
       else if r < 32 ∨ r = 127 ∨ (r = 65533 ∧ wd = 1) then some (⟨#[]⟩, 0, 3)
       else if acc.length ≤ 140737488355000 then text_Unquote.l0 k (ba T) (acc ++ Lib.encodeRune (r : Int)) (p + wd) else none) v → Ends (fun k => text_Unquote.l0 k (ba T) acc p) v := by
      intro v hv
      refine Ends.step (fun k => text_Unquote.l0.eq_2 ..) (Ends.pos hs ?_)
      simp only [hr, hw, ba_drop]
      exact hv
    have RX : ∀ v, Ends (fun k => (if (r : Int) = 34 then (some (ba acc, wrap64 ((p : Int) + 1), (0 : Int))) else (if (r : Int) = 10 then (some ((⟨#[]⟩ : ByteArray), 0, 13)) else (if (r : Int) = 92 then (if 0 ≤ (wrap64 ((p : Int) + 1)) then (if (wrap64 ((p : Int) + 1)) ≤ ((ba (T ++ R)).size : Int) then ((arboristref01_escape.f k ((ba (T ++ R)).extract ((wrap64 ((p : Int) + 1)) : Int).toNat (ba (T ++ R)).size)).bind fun bt232 => (if bt232.2.2 = 0 then (if (ba acc).size + bt232.1.size ≤ 9223372036854775807 then (arboristref01_Unquote.l0 k (ba (T ++ R)) (ba acc ++ bt232.1) (wrap64 ((p : Int) + (wrap64 (1 + bt232.2.1))))) else (none)) else (some ((⟨#[]⟩ : ByteArray), 0, bt232.2.2)))) else (none)) else (none)) else (if (r : Int) < 32 then (some ((⟨#[]⟩ : ByteArray), 0, 3)) else (if (r : Int) = 127 then (some ((⟨#[]⟩ : ByteArray), 0, 3)) else ((arboristref01_Invalid.f (r : Int) 0 (wd : Int)).bind fun t235 => (if t235 = true then (some ((⟨#[]⟩ : ByteArray), 0, 3)) else (if (p : Int) ≤ (wrap64 ((p : Int) + (wd : Int))) then (if (wrap64 ((p : Int) + (wd : Int))) ≤ ((ba (T ++ R)).size : Int) then (if (ba acc).size + ((ba (T ++ R)).extract (p : Int).toNat ((wrap64 ((p : Int) + (wd : Int))) : Int).toNat).size ≤ 9223372036854775807 then (arboristref01_Unquote.l0 k (ba (T ++ R)) (ba acc ++ ((ba (T ++ R)).extract (p : Int).toNat ((wrap64 ((p : Int) + (wd : Int))) : Int).toNat)) (wrap64 ((p : Int) + (wd : Int)))) else (none)) else (none)) else (none)))))))))) v → Ends (fun k => arboristref01_Unquote.l0 k (ba (T ++ R)) (ba acc) (p : Int)) v := by
      intro v hv
      exact Ends.step (fun k => arboristref01_Unquote.l0.eq_2 ..) (Ends.pos (by omega) (Ends.pos (by omega) (Ends.pos (by omega) (Ends.bind0 (by rw [Int.toNat_natCast]; exact hone) hv))))
    have HO := Aside0.mk hone
    clear hone hr hw
    have e1 : wrap64 ((p : Int) + 1) = ((p + 1 : Nat) : Int) := (congrArg wrap64 (by push_cast; rfl)).trans (wrap_nat _ n1)
    have e2 : wrap64 ((p : Int) + (wd : Int)) = ((p + wd : Nat) : Int) := (congrArg wrap64 (by push_cast; rfl)).trans (wrap_nat _ n2)
    have E1 := Aside0.mk e1
    have E2 := Aside0.mk e2
    clear e1 e2
    by_cases h34 : r = 34
    · refine ⟨(ba acc, (p : Int) + 1, 0), TX _ (Ends.pos h34 (Ends.const _)), RX _ (Ends.pos (by omega) ?_)⟩
      rw [E1.out]
      exact (Ends.const _).val (by push_cast; rfl)
    by_cases h92 : r = 92
    · have hd1 : (T ++ R).drop (p + 1) = T.drop (p + 1) ++ R := List.drop_append_of_le_length (by omega)
      obtain ⟨b, hf, ht, v, hv, hre⟩ := escape_both (T.drop (p + 1)) R (fun c hc => hT c (List.mem_of_mem_drop hc)) hR
      have i34 : ¬ ((r : Int) = 34) := by omega
      have i10 : ¬ ((r : Int) = 10) := by omega
      have i92 : (r : Int) = 92 := by omega
      have z0 : (0 : Int) ≤ ((p + 1 : Nat) : Int) := by omega
      have z1 : ((p + 1 : Nat) : Int) ≤ ((ba (T ++ R)).size : Int) := by omega
      have RX2 : ∀ v2, Ends (fun k => if v.2.2 = 0 then (if (ba acc).size + v.1.size ≤ 9223372036854775807 then (arboristref01_Unquote.l0 k (ba (T ++ R)) (ba acc ++ v.1) (wrap64 ((p : Int) + (wrap64 (1 + v.2.1))))) else (none)) else (some ((⟨#[]⟩ : ByteArray), 0, v.2.2))) v2 → Ends (fun k => arboristref01_Unquote.l0 k (ba (T ++ R)) (ba acc) (p : Int)) v2 := by
        intro v2 hv2
        refine RX _ (Ends.neg i34 (Ends.neg i10 (Ends.pos i92 ?_)))
        rw [E1.out, Int.toNat_natCast, ba_drop, hd1]
        exact Ends.pos z0 (Ends.pos z1 (Ends.bind hre hv2))
      cases b with
      | un =>
        have h13 : v.2.2 = 13 := hv
        refine ⟨_, TX _ (Ends.neg h34 (Ends.pos h92 (Ends.bind ht (Ends.pos (by decide) (Ends.const _))))), RX2 _ (Ends.neg (by omega) ?_)⟩
        rw [h13]; exact Ends.const _
      | fo =>
        have h3' : v.2.2 = 3 := hv
        refine ⟨_, TX _ (Ends.neg h34 (Ends.pos h92 (Ends.bind ht (Ends.neg (by decide) (Ends.pos rfl (Ends.const _)))))), RX2 _ (Ends.neg (by omega) ?_)⟩
        rw [h3']; exact Ends.const _
      | ok dd len =>
        obtain ⟨f1, f2, f3, f4⟩ := hf
        rw [List.length_drop] at f3
        obtain rfl : v = (ba dd, (len : Int), 0) := hv
        obtain ⟨v2, g1, g2⟩ := ih (p + (1 + len)) (acc ++ dd) (by omega) (by omega) (by rw [List.length_append]; omega)
        have n3 : 1 + len ≤ 4294967296 := by omega
        have n4 : p + (1 + len) ≤ 4294967296 := by omega
        have e3 : wrap64 (1 + (len : Int)) = ((1 + len : Nat) : Int) := (congrArg wrap64 (by push_cast; rfl)).trans (wrap_nat _ n3)
        have e4 : wrap64 ((p : Int) + ((1 + len : Nat) : Int)) = ((p + (1 + len) : Nat) : Int) := (congrArg wrap64 (by push_cast; rfl)).trans (wrap_nat _ n4)
        have E3 := Aside0.mk e3
        have E4 := Aside0.mk e4
        clear e3 e4
        have k1 : ¬ ((len : Int) < 0) := by omega
        have k2 : ¬ ((len : Int) = 0) := by omega
        have k3 : acc.length + (ba dd).size ≤ 140737488355000 := by rw [ba_size]; omega
        have k4 : (len : Int) ≤ 4294967296 := by omega
        have k5 : (ba acc).size + (ba dd).size ≤ 9223372036854775807 := by rw [ba_size, ba_size]; omega
        refine ⟨v2, TX _ (Ends.neg h34 (Ends.pos h92 (Ends.bind ht ?_))), RX2 _ (Ends.pos rfl (Ends.pos k5 ?_))⟩
        · simp only [ER.t, ba_list, Int.toNat_natCast]
          exact Ends.neg k1 (Ends.neg k2 (Ends.pos k3 (Ends.pos k4 g1)))
        · simp only [E3.out, E4.out, ba_app]
          exact g2
    by_cases hbad : r < 32 ∨ r = 127 ∨ (r = 65533 ∧ wd = 1)
    · refine ⟨(⟨#[]⟩, 0, 3), TX _ (Ends.neg h34 (Ends.neg h92 (Ends.pos hbad (Ends.const _)))), RX _ (Ends.neg (by omega) (Ends.neg (by omega) (Ends.neg (by omega) ?_)))⟩
      by_cases h32 : (r : Int) < 32
      · exact Ends.pos h32 (Ends.const _)
      refine Ends.neg h32 ?_
      by_cases h127 : (r : Int) = 127
      · exact Ends.pos h127 (Ends.const _)
      refine Ends.neg h127 ?_
      have hiv : arboristref01_Invalid.f (r : Int) 0 (wd : Int) = some true := by
        unfold arboristref01_Invalid.f
        rw [if_pos (by omega)]
        simp; omega
      exact Ends.bind0 hiv (Ends.pos rfl (Ends.const _))
    · have hen := henc (by omega)
      have hl2 := (Lib.runeCells_le (r : Int)).2
      rw [Lib.runeCells_length] at hl2
      have hlen : (Lib.encodeRune (r : Int)).length ≤ 4 * wd := by omega
      obtain ⟨v2, g1, g2⟩ := ih (p + wd) (acc ++ Lib.encodeRune (r : Int)) (by omega) w2 (by rw [List.length_append]; omega)
      have hiv : arboristref01_Invalid.f (r : Int) 0 (wd : Int) = some false := by
        unfold arboristref01_Invalid.f
        by_cases q : (r : Int) = 65533
        · rw [if_pos q]; simp; omega
        · rw [if_neg q]
      have hex : (ba (T ++ R)).extract p (p + wd) = ba (Lib.encodeRune (r : Int)) := by
        refine ba_ext ?_
        rw [ba_list, hen]
        simp only [ba, ByteArray.data_extract]
        simp
        rw [List.drop_append_of_le_length (by omega), List.take_append_of_le_length (by rw [List.length_drop]; omega)]
      refine ⟨v2, TX _ (Ends.neg h34 (Ends.neg h92 (Ends.neg hbad (Ends.pos (by omega) g1)))), RX _ (Ends.neg (by omega) (Ends.neg (by omega) (Ends.neg (by omega) (Ends.neg (by omega) (Ends.neg (by omega) (Ends.bind0 hiv (Ends.neg (by decide) ?_)))))))⟩
      rw [E2.out, Int.toNat_natCast, Int.toNat_natCast, hex, ba_app]
      exact Ends.pos (by omega) (Ends.pos (by rw [ba_size, List.length_append]; omega) (Ends.pos (by rw [ba_size, ba_size]; omega) g2))
theorem behind_line (l : List UInt8) : Behind (l.dropWhile (fun c => c != 10)) := by
  induction l with
  | nil => exact .inl rfl
  | cons c l ih =>
    by_cases h : c = 10
    · subst h; exact .inr ⟨l, by simp [List.dropWhile]⟩
    · rw [List.dropWhile_cons_of_pos (by simpa using h)]; exact ih
theorem line_mem (l : List UInt8) : ∀ c ∈ l.takeWhile (fun c => c != 10), c ≠ 10 := by
  induction l with
  | nil => simp
  | cons c l ih =>
    by_cases h : c = 10
    · subst h; simp [List.takeWhile]
    · rw [List.takeWhile_cons_of_pos (by simpa using h)]
      intro x hx
      rcases List.mem_cons.1 hx with rfl | hx
      · exact h
      · exact ih x hx
theorem unquote_same (s : ByteArray) (hs : s.size ≤ 1000000) : ∃ v, Ends (fun k => text_Unquote.f k s) v ∧ Ends (fun k => arboristref01_Unquote.f k s) v := by
  obtain ⟨l, rfl⟩ : ∃ l, s = ba l := ⟨_, ba_of s⟩
  have hT := line_mem l
  have hR := behind_line l
  have hl : l.takeWhile (fun c => c != 10) ++ l.dropWhile (fun c => c != 10) = l := List.takeWhile_append_dropWhile
  have hlen : (l.takeWhile (fun c => c != 10)).length ≤ l.length := List.Sublist.length_le (List.takeWhile_sublist _)
  rw [ba_size] at hs
  have hz : (ba l).size < 4294967281 := by rw [ba_size]; omega
  have eL : lineOf (ba l) = ba (l.takeWhile (fun c => c != 10)) := by rw [lineOf_eq, ba_list]
  unfold text_Unquote.f arboristref01_Unquote.f
  rw [eL]
  rcases l with _ | ⟨c, t⟩
  · refine ⟨(⟨#[]⟩, 0, 3), Ends.pos hz (Ends.neg (by rw [ba_list]; decide) (Ends.const _)), Ends.pos (by simp [ByteArray.toList_eq, ba]) (Ends.step (fun k => arboristref01_Unquote.j0.eq_2 ..) (Ends.pos rfl (Ends.const _)))⟩
  · obtain ⟨q1, q2⟩ := bt_ba (l := c :: t) (i := 0) rfl
    have hb : bt (ba (c :: t)) 0 = (c.toNat : Int) := q2
    have s0 : 0 < ((ba (c :: t)).size : Int) := by omega
    by_cases h : c.toNat = 34
    · obtain rfl : c = 34 := byte_eq (n := 34) (by omega) h
      have e34 : (bt (ba (34 :: t)) 0 != 34) = false := by rw [hb]; decide
      have e1 : 1 ≤ ((34 :: t).takeWhile (fun c => c != 10)).length := by
        rw [List.takeWhile_cons_of_pos (by decide)]; simp
      obtain ⟨v, g1, g2⟩ := unquote_both _ _ hT hR (by omega) ((34 :: t).takeWhile (fun c => c != 10)).length 1 [] (by omega) e1 (by simp)
      rw [hl] at g2
      refine ⟨v, Ends.pos hz (Ends.pos (by rw [ba_list]; rfl) g1), Ends.neg (by rw [ByteArray.toList_eq, ba_list]; simp) (Ends.pos s0 (Ends.step (fun k => arboristref01_Unquote.j0.eq_2 ..) ?_))⟩
      rw [e34]
      exact Ends.neg (by decide) g2
    · have hne : c ≠ 34 := fun e => h (by rw [e]; rfl)
      have e34 : (bt (ba (c :: t)) 0 != 34) = true := by rw [hb]; simp; omega
      refine ⟨(⟨#[]⟩, 0, 3), Ends.pos hz (Ends.neg (by rw [ba_list]; simp [Lib.hasPrefix, List.isPrefixOf]; exact fun e => hne e.symm) (Ends.const _)), Ends.neg (by rw [ByteArray.toList_eq, ba_list]; simp) (Ends.pos s0 (Ends.step (fun k => arboristref01_Unquote.j0.eq_2 ..) (Ends.pos e34 (Ends.const _))))⟩
theorem unq_bound : ∀ (k : Nat) (line : ByteArray) (acc : List UInt8) (p : Nat) (t : ByteArray) (n : Int), text_Unquote.l0 k line acc p = some (t, n, 0) → (p : Int) + 1 ≤ n ∧ n ≤ (line.size : Int) := by
  intro k
  induction k with
  | zero => intro line acc p t n h; simp [text_Unquote.l0] at h
  | succ k ih =>
    intro line acc p t n h
    have w1 := rune_w_pos line p
    simp only [text_Unquote.l0] at h
    split at h
    case isFalse => simp at h
    rename_i hp
    split at h
    · simp only [Option.some.injEq, Prod.mk.injEq] at h
      obtain ⟨_, rfl, _⟩ := h
      omega
    split at h
    · obtain ⟨x, _, h⟩ := Option.bind_eq_some_iff.1 h
      split at h
      · simp at h
      split at h
      · simp at h
      split at h
      · split at h
        · have := ih _ _ _ _ _ h; omega
        · cases h
      · cases h
    split at h
    · simp at h
    split at h
    · have := ih _ _ _ _ _ h; omega
    · cases h
end Go.Proofs.YthijdjpipjbkbaaDoor.H
end
section
namespace Go.Proofs.YthijdjpipjbkbaaDoor.H
open Go.RowKit Go.Proofs.YthijdjpipjbkbaaDoorW.PrintWords Go.Proofs.YthijdjpipjbkbaaDoorW.PrintLast Go.Proofs.YthijdjpipjbkbaaDoorW.PrintMore
set_option linter.unusedVariables false
set_option linter.unusedSimpArgs false
section
set_option maxRecDepth 100000
theorem cls_letter (c : Nat) (h : c < 256) (hl : letB c = true) : cls c = 1 := by
  have H : ∀ c : Fin 256, letB (c : Nat) = true → cls (c : Nat) = 1 := by decide
  exact H ⟨c, h⟩ hl
theorem cls_digit (c : Nat) (h : c < 256) (hl : letB c = false) (hd : digB c = true) : cls c = 2 := by
  have H : ∀ c : Fin 256, letB (c : Nat) = false → digB (c : Nat) = true → cls (c : Nat) = 2 := by decide
  exact H ⟨c, h⟩ hl hd
def isSign (c : Nat) : Bool := c == 35 || c == 61 || c == 124 || c == 59 || c == 58 || c == 40 || c == 41 || c == 63 || c == 42 || c == 43 || c == 44
theorem cls_rest (c : Nat) (h : c < 256) (hl : letB c = false) (hd : digB c = false) (h1 : c ≠ 34) (h2 : c ≠ 47) (h3 : c ≠ 37) : cls c = 7 ∨ ((cls c = 6 ∨ cls c = 8) ∧ isSign c = true) ∨ (cls c = 0 ∧ isSign c = false) := by
  have H : ∀ c : Fin 256, letB (c : Nat) = false → digB (c : Nat) = false → (c : Nat) ≠ 34 → (c : Nat) ≠ 47 → (c : Nat) ≠ 37 → cls (c : Nat) = 7 ∨ ((cls (c : Nat) = 6 ∨ cls (c : Nat) = 8) ∧ isSign (c : Nat) = true) ∨ (cls (c : Nat) = 0 ∧ isSign (c : Nat) = false) := by decide
  exact H ⟨c, h⟩ hl hd h1 h2 h3
end
theorem ext_dt (s : ByteArray) (a b : Nat) : (s.extract a b).data.toList = (s.data.toList.drop a).take (b - a) := by
  rw [ByteArray.data_extract, Array.toList_extract, List.extract_eq_take_drop]
theorem trim_val (x : ByteArray) (h : x.size ≤ 9223372036854775807) : strings_Trim.f x digitsS = some ⟨(Lib.trimS x.data.toList digitsS.data.toList).toArray⟩ := by
  unfold strings_Trim.f
  rw [if_pos (rfl : digitsS = digitsS), if_pos h]
section
set_option maxRecDepth 100000
theorem dig_in : ∀ n : Fin 256, digitsS.data.toList.contains (UInt8.ofNat (n : Nat)) = digB (n : Nat) := by decide
end
theorem trim_nil (l : List UInt8) : ((⟨(Lib.trimS l digitsS.data.toList).toArray⟩ : ByteArray).toList = ([] : List UInt8)) ↔ (l.all fun c => digB c.toNat) = true := by
  have hc : ∀ c : UInt8, digitsS.data.toList.contains c = digB c.toNat := fun c => by
    have h := dig_in ⟨c.toNat, c.toNat_lt⟩
    simpa using h
  have dw : ∀ l : List UInt8, l.dropWhile (digitsS.data.toList.contains ·) = [] ↔ (l.all fun c => digB c.toNat) = true := by
    intro l
    induction l with
    | nil => simp
    | cons c r ih =>
      rw [List.dropWhile_cons, List.all_cons, hc c]
      cases digB c.toNat with
      | true => simpa using ih
      | false => simp
  have dn : ∀ l : List UInt8, ∀ c ∈ l.dropWhile (digitsS.data.toList.contains ·), c ∈ l := fun l c h => (List.dropWhile_sublist _).subset h
  rw [Lib.toList_data]
  show Lib.trimS l digitsS.data.toList = [] ↔ _
  unfold Lib.trimS Lib.trimLeftS Lib.trimRightS
  rw [dw, List.all_reverse]
  constructor
  · intro h
    by_cases hr : l.reverse.dropWhile (digitsS.data.toList.contains ·) = []
    · have := (dw _).1 hr
      rwa [List.all_reverse] at this
    · obtain ⟨c, r, hcr⟩ := List.exists_cons_of_ne_nil hr
      have h1 := List.head_dropWhile_not (digitsS.data.toList.contains ·) hr
      simp only [hcr, List.head_cons] at h1
      rw [hcr, List.all_cons] at h
      rw [hc c] at h1
      rw [h1] at h
      simp at h
  · intro h
    rw [List.all_eq_true] at h ⊢
    intro c hc2
    exact h c (by simpa using dn _ c hc2)
theorem sign_cases {c : Nat} (h : isSign c = true) : c = 35 ∨ c = 61 ∨ c = 124 ∨ c = 59 ∨ c = 58 ∨ c = 40 ∨ c = 41 ∨ c = 63 ∨ c = 42 ∨ c = 43 ∨ c = 44 := by
  unfold isSign at h
  simpa [or_assoc] using h
end Go.Proofs.YthijdjpipjbkbaaDoor.H
end
section
namespace Go.Proofs.YthijdjpipjbkbaaDoor.H
open Go.RowKit Go.Proofs.YthijdjpipjbkbaaDoorW.PrintWords Go.Proofs.YthijdjpipjbkbaaDoorW.PrintLast Go.Proofs.YthijdjpipjbkbaaDoorW.PrintMore
set_option linter.unusedVariables false
set_option linter.unusedSimpArgs false
theorem enc_one (c : Nat) (h : c < 128) : Lib.encodeRune (c : Int) = [c.toUInt8] := by
  unfold Lib.encodeRune
  rw [Lib.encodeRuneZ_one (by omega) (by omega)]
  rfl
theorem unq_lit (L : List UInt8) (p : Nat) (c : UInt8) (t : List UInt8) (h : L.drop p = c :: t) (h1 : 32 ≤ c.toNat) (h2 : c.toNat ≤ 126) (h3 : c.toNat ≠ 34) (h4 : c.toNat ≠ 92) (acc : List UInt8) (ha : acc.length ≤ 140737488355000) (v : ByteArray × Int × Int)
    (hv : Ends (fun k => text_Unquote.l0 k (ba L) (acc ++ [c]) (p + 1)) v) : Ends (fun k => text_Unquote.l0 k (ba L) acc p) v := by
  obtain ⟨hs, hd⟩ := dec_ascii h (by omega)
  refine Ends.step (fun k => text_Unquote.l0.eq_2 ..) (Ends.pos hs ?_)
  simp only [hd, enc_one c.toNat (by omega)]
  refine Ends.neg h3 (Ends.neg h4 (Ends.neg (by omega) (Ends.pos ha ?_)))
  have e : c.toNat.toUInt8 = c := by simp [Nat.toUInt8]
  rw [e]; exact hv
theorem unq_esc (L : List UInt8) (p : Nat) (t : List UInt8) (h : L.drop p = 92 :: t) (d : List UInt8) (n : Nat) (hn : 1 ≤ n) (hn2 : n ≤ 4294967296) (he : Ends (fun k => text_escape.f k (ba t)) (ba d, (n : Int))) (acc : List UInt8) (ha : acc.length + d.length ≤ 140737488355000) (v : ByteArray × Int × Int)
    (hv : Ends (fun k => text_Unquote.l0 k (ba L) (acc ++ d) (p + (1 + n))) v) : Ends (fun k => text_Unquote.l0 k (ba L) acc p) v := by
  obtain ⟨hs, hd⟩ := dec_ascii h (by decide)
  have hdr : L.drop (p + 1) = t := (drop_cons h).2.1
  refine Ends.step (fun k => text_Unquote.l0.eq_2 ..) (Ends.pos hs ?_)
  simp only [hd, ba_drop, hdr]
  refine Ends.neg (by decide) (Ends.pos (by decide) (Ends.bind he (Ends.neg (by omega) (Ends.neg (by omega) (Ends.pos (by rw [ba_size]; omega) (Ends.pos (by omega) ?_))))))
  simp only [ba_list, Int.toNat_natCast]
  exact hv
theorem unq_end (L : List UInt8) (p : Nat) (t : List UInt8) (h : L.drop p = 34 :: t) (acc : List UInt8) : Ends (fun k => text_Unquote.l0 k (ba L) acc p) (ba acc, (p : Int) + 1, 0) := by
  obtain ⟨hs, hd⟩ := dec_ascii h (by decide)
  refine Ends.step (fun k => text_Unquote.l0.eq_2 ..) (Ends.pos hs ?_)
  simp only [hd]
  exact Ends.pos (by decide) (Ends.const _)
theorem unq_step (s : ByteArray) (hs : s.size ≤ 1000000) (x : S65) (hx : RuneOf s x) (L tail : List UInt8) (p : Nat) (hL : L.drop p = escOf s x ++ tail) (acc : List UInt8) (ha : acc.length ≤ 140737488350000) (v : ByteArray × Int × Int)
    (hv : Ends (fun k => text_Unquote.l0 k (ba L) (acc ++ (s.data.toList.drop x.f1.toNat).take x.f2.toNat) (p + (escOf s x).length)) v) : Ends (fun k => text_Unquote.l0 k (ba L) acc p) v := by
  obtain ⟨pos, hp, rfl⟩ := hx
  have w1 := rune_w_pos s pos
  have rl := Lib.rune_le s pos
  have hdrop := byte_drop s pos hp
  have hvalid : (Utf8.decode s pos).1 < 55296 ∨ (57343 < (Utf8.decode s pos).1 ∧ (Utf8.decode s pos).1 ≤ 1114111) := by
    have := Lib.decodeN_valid (s.size - pos) (s.get! pos).toNat (s.get! (pos + 1)).toNat (s.get! (pos + 2)).toNat (s.get! (pos + 3)).toNat (UInt8.toNat_lt _)
    rwa [← Lib.decode_at] at this
  have henc : ¬ ((Utf8.decode s pos).1 = 65533 ∧ (Utf8.decode s pos).2 = 1) → Lib.encodeRune ((Utf8.decode s pos).1 : Int) = (s.data.toList.drop pos).take (Utf8.decode s pos).2 := fun q => by
    have e : Lib.decodeL (s.data.toList.drop pos) = Utf8.decode s pos := by
      have h1 := Lib.tail_decode s pos 0
      have h2 : s.extract pos s.size = ba (s.data.toList.drop pos) := by
        have h3 := ba_drop s.data.toList pos
        rwa [← ba_of s] at h3
      rw [h2] at h1
      exact h1
    have h3 := Lib.encode_decode (s.data.toList.drop pos) (by rw [hdrop]; simp) (by rw [e]; exact q)
    rw [e] at h3
    exact h3
  obtain ⟨r, hr⟩ : ∃ r, (Utf8.decode s pos).1 = r := ⟨_, rfl⟩
  obtain ⟨wd, hw⟩ : ∃ wd, (Utf8.decode s pos).2 = wd := ⟨_, rfl⟩
  have hbad := rune_w_bad s pos hp
  have hasc : r < 128 → (s[pos]'hp).toNat = r ∧ wd = 1 := fun q => by
    have := rune_ascii hp (by rw [hr]; exact q)
    rw [Prod.ext_iff] at this
    exact ⟨by rw [← hr, this.1.1], by rw [← hw, this.1.2]⟩
  have hget := get_byte s pos hp
  rw [hr, hw] at hbad hv hL henc
  rw [hr] at rl hvalid
  clear hr hw w1
  simp only [Int.toNat_natCast] at hv
  obtain ⟨c, hc⟩ : ∃ c, s[pos]'hp = c := ⟨_, rfl⟩
  rw [hc] at hget hbad hasc hdrop
  clear hc
  have hc8 := c.toNat_lt
  have hpi : ((pos : Int)).toNat = pos := rfl
  by_cases hb1 : r = 65533 ∧ wd = 1
  · have hh := hbad hb1.1 hb1.2
    have e5 : escOf s ⟨(r : Int), (pos : Int), (wd : Int)⟩ = 92 :: 120 :: 123 :: hexL 14 c.toNat [] ++ [125] := by
      unfold escOf
      rw [if_pos ⟨by simp [hb1.1], by simp [hb1.2]⟩]
      simp only [hpi, hget]
      rfl
    rw [e5] at hL hv
    rw [hdrop, hb1.2] at hv
    have hl1 := hexL_len 14 c.toNat []
    simp only [List.length_nil] at hl1
    refine unq_esc L p (120 :: 123 :: (hexL 14 c.toNat [] ++ 125 :: tail)) (by rw [hL]; simp) [c] ((hexL 14 c.toNat []).length + 3) (by omega) (by omega) ?_ acc (by simp; omega) v ?_
    · have := esc_x c.toNat hh hc8 tail
      have e : c.toNat.toUInt8 = c := by simp [Nat.toUInt8]
      rwa [e] at this
    · refine hv.cast (fun k => ?_)
      simp only [List.take_succ_cons, List.take_zero]
      congr 1
      simp; omega
  have henc' := henc hb1
  by_cases h10 : r = 10
  · have e5 : escOf s ⟨(r : Int), (pos : Int), (wd : Int)⟩ = [92, 110] := by
      unfold escOf
      rw [if_neg (by simp; omega), if_pos (by simp; omega)]
    rw [e5] at hL hv
    rw [← henc', h10] at hv
    exact unq_esc L p (110 :: tail) hL [10] 1 (by omega) (by omega) (esc_char 110 2 tail 10 (by omega) (by decide) (by decide)) acc (by simp; omega) v hv
  by_cases h13 : r = 13
  · have e5 : escOf s ⟨(r : Int), (pos : Int), (wd : Int)⟩ = [92, 114] := by
      unfold escOf
      rw [if_neg (by simp; omega), if_neg (by simp; omega), if_pos (by simp; omega)]
    rw [e5] at hL hv
    rw [← henc', h13] at hv
    exact unq_esc L p (114 :: tail) hL [13] 1 (by omega) (by omega) (esc_char 114 3 tail 13 (by omega) (by decide) (by decide)) acc (by simp; omega) v hv
  by_cases h9 : r = 9
  · have e5 : escOf s ⟨(r : Int), (pos : Int), (wd : Int)⟩ = [92, 116] := by
      unfold escOf
      rw [if_neg (by simp; omega), if_neg (by simp; omega), if_neg (by simp; omega), if_pos (by simp; omega)]
    rw [e5] at hL hv
    rw [← henc', h9] at hv
    exact unq_esc L p (116 :: tail) hL [9] 1 (by omega) (by omega) (esc_char 116 4 tail 9 (by omega) (by decide) (by decide)) acc (by simp; omega) v hv
  by_cases h34 : r = 34
  · have e5 : escOf s ⟨(r : Int), (pos : Int), (wd : Int)⟩ = [92, 34] := by
      unfold escOf
      rw [if_neg (by simp; omega), if_neg (by simp; omega), if_neg (by simp; omega), if_neg (by simp; omega), if_pos (by simp; omega), h34]
      rfl
    rw [e5] at hL hv
    rw [← henc', h34] at hv
    exact unq_esc L p (34 :: tail) hL [34] 1 (by omega) (by omega) (esc_char 34 0 tail 34 (by omega) (by decide) (by decide)) acc (by simp; omega) v hv
  by_cases h92 : r = 92
  · have e5 : escOf s ⟨(r : Int), (pos : Int), (wd : Int)⟩ = [92, 92] := by
      unfold escOf
      rw [if_neg (by simp; omega), if_neg (by simp; omega), if_neg (by simp; omega), if_neg (by simp; omega), if_pos (by simp; omega), h92]
      rfl
    rw [e5] at hL hv
    rw [← henc', h92] at hv
    exact unq_esc L p (92 :: tail) hL [92] 1 (by omega) (by omega) (esc_char 92 1 tail 92 (by omega) (by decide) (by decide)) acc (by simp; omega) v hv
  by_cases hx : r < 32 ∨ 126 < r
  · have e5 : escOf s ⟨(r : Int), (pos : Int), (wd : Int)⟩ = 92 :: 117 :: 123 :: hexL 14 r [] ++ [125] := by
      unfold escOf
      rw [if_neg (by simp; omega), if_neg (by simp; omega), if_neg (by simp; omega), if_neg (by simp; omega), if_neg (by simp; omega), if_pos (by simp; omega)]
      simp only [Int.toNat_natCast]
      rfl
    rw [e5] at hL hv
    rw [← henc'] at hv
    have hl1 := hexL_len 14 r []
    simp only [List.length_nil] at hl1
    have hl2 := (Lib.runeCells_le (r : Int)).2
    rw [Lib.runeCells_length] at hl2
    refine unq_esc L p (117 :: 123 :: (hexL 14 r [] ++ 125 :: tail)) (by rw [hL]; simp) (Lib.encodeRune (r : Int)) ((hexL 14 r []).length + 3) (by omega) (by omega) (esc_u r hvalid tail) acc (by omega) v ?_
    refine hv.cast (fun k => ?_)
    congr 1
    simp; omega
  · obtain ⟨hcr, hw1⟩ := hasc (by omega)
    have e5 : escOf s ⟨(r : Int), (pos : Int), (wd : Int)⟩ = [c] := by
      unfold escOf
      rw [if_neg (by simp; omega), if_neg (by simp; omega), if_neg (by simp; omega), if_neg (by simp; omega), if_neg (by simp; omega), if_neg (by simp; omega), ← hcr]
      simp
    rw [e5] at hL hv
    rw [hdrop, hw1] at hv
    exact unq_lit L p c tail hL (by omega) (by omega) (by omega) (by omega) acc (by omega) v hv
theorem hexL_no10 (u : Nat) (hu : u < 16 ^ 15) : ∀ c ∈ hexL 14 u [], c ≠ 10 := by
  intro c hc
  have e := hexL_digs 14 u []
  simp only [List.map_nil] at e
  rw [e] at hc
  obtain ⟨d, hd, rfl⟩ := List.mem_map.1 hc
  have hlt := digs_lt 14 u [] hu (by simp) d hd
  have H : ∀ d, d < 16 → hexD d ≠ 10 := by decide
  exact H d hlt
theorem esc_no10 (s : ByteArray) (x : S65) (hx : 0 ≤ x.f0 ∧ x.f0 ≤ 1114111) : ∀ c ∈ escOf s x, c ≠ 10 := by
  have h15 : (16 : Nat) ^ 15 = 1152921504606846976 := by decide
  have hb := (s.get! x.f1.toNat).toNat_lt
  unfold escOf
  split
  · intro c hc
    simp only [List.mem_append, List.mem_cons, List.not_mem_nil, or_false] at hc
    rcases hc with (h | h) | h
    · rcases h with rfl | rfl | rfl <;> decide
    · exact hexL_no10 _ (by omega) c h
    · subst h; decide
  split
  · decide
  split
  · decide
  split
  · decide
  split
  · rename_i h
    intro c hc
    simp only [List.mem_cons, List.not_mem_nil, or_false] at hc
    rcases hc with rfl | rfl
    · decide
    · rcases h with h | h <;> rw [h] <;> decide
  split
  · intro c hc
    simp only [List.mem_append, List.mem_cons, List.not_mem_nil, or_false] at hc
    rcases hc with (h | h) | h
    · rcases h with rfl | rfl | rfl <;> decide
    · exact hexL_no10 _ (by omega) c h
    · subst h; decide
  · rename_i h10 _ _ _ h
    intro c hc
    simp only [List.mem_cons, List.not_mem_nil, or_false] at hc
    subst hc
    intro q
    have h2 := congrArg UInt8.toNat q
    simp [Nat.toUInt8] at h2
    omega
theorem line_of (a b : List UInt8) (ha : ∀ c ∈ a, c ≠ 10) : (a ++ b).takeWhile (fun c => c != 10) = a ++ b.takeWhile (fun c => c != 10) :=
  List.takeWhile_append_of_pos (fun c hc => by simpa using ha c hc)
theorem unq_all (s : ByteArray) (hs : s.size ≤ 1000000) (L tail : List UInt8) : ∀ (f pos p : Nat), s.size ≤ pos + f → pos ≤ s.size → L.drop p = (runesFrom s f pos).flatMap (escOf s) ++ 34 :: tail →
    Ends (fun k => text_Unquote.l0 k (ba L) (s.data.toList.take pos) p) (s, ((p + ((runesFrom s f pos).flatMap (escOf s)).length : Nat) : Int) + 1, 0) := by
  have hlen : s.data.toList.length = s.size := Array.length_toList
  have last : ∀ (p : Nat), L.drop p = 34 :: tail → Ends (fun k => text_Unquote.l0 k (ba L) (s.data.toList.take s.size) p) (s, (p : Int) + 1, 0) := fun p h => by
    have := unq_end L p tail h (s.data.toList.take s.size)
    rw [List.take_of_length_le (by omega), ← ba_of s] at this
    rw [List.take_of_length_le (by omega)]
    exact this
  intro f
  induction f with
  | zero =>
    intro pos p h1 h2 h
    obtain rfl : pos = s.size := by omega
    exact last p h
  | succ f ih =>
    intro pos p h1 h2 h
    by_cases hp : pos < s.size
    · have w1 := rune_w_pos s pos
      have w2 := rune_w_le s pos hp
      simp only [runesFrom, if_pos hp, List.flatMap_cons, List.append_assoc] at h ⊢
      refine unq_step s hs _ ⟨pos, hp, rfl⟩ L _ p h _ (by rw [List.length_take]; omega) _ ?_
      simp only [Int.toNat_natCast]
      have e : s.data.toList.take pos ++ (s.data.toList.drop pos).take (Utf8.decode s pos).2 = s.data.toList.take (pos + (Utf8.decode s pos).2) := (List.take_add ..).symm
      rw [e]
      have h3 : L.drop (p + (escOf s ⟨((Utf8.decode s pos).1 : Int), (pos : Int), ((Utf8.decode s pos).2 : Int)⟩).length) = (runesFrom s f (pos + (Utf8.decode s pos).2)).flatMap (escOf s) ++ 34 :: tail := by
        rw [← List.drop_drop, h, List.drop_left]
      refine (ih _ _ (by omega) w2 h3).val ?_
      simp only [List.length_append]
      rw [Nat.add_assoc]
    · obtain rfl : pos = s.size := by omega
      rw [runesFrom_end s _ _ hp] at h ⊢
      exact last p h
theorem flat_no10 (s : ByteArray) : ∀ c ∈ quoteB s (runesL s) ++ [34], c ≠ 10 := by
  intro c hc
  unfold quoteB at hc
  simp only [List.cons_append, List.mem_cons, List.mem_append, List.mem_flatMap, List.not_mem_nil, or_false] at hc
  rcases hc with rfl | ⟨x, hx, h⟩ | rfl
  · decide
  · exact esc_no10 s x (runesFrom_mem s s.size 0 x hx).1 c h
  · decide
theorem unquote_quoted (s rest : ByteArray) (hs : s.size ≤ 1000000) (hr : rest.size ≤ 1000000) :
    Ends (fun k => text_Unquote.f k (ba (quoteB s (runesL s) ++ [34]) ++ rest)) (s, ((quoteB s (runesL s) ++ [34]).length : Int), 0) := by
  have hq := flatMap_esc_len s (runesL s)
  have hl := runesL_len s
  have hz : (ba (quoteB s (runesL s) ++ [34]) ++ rest).size < 4294967281 := by
    rw [ByteArray.size_append, ba_size]
    simp only [quoteB, List.length_append, List.length_cons, List.length_nil]
    omega
  have hd : (ba (quoteB s (runesL s) ++ [34]) ++ rest).data.toList = (quoteB s (runesL s) ++ [34]) ++ rest.data.toList := by
    conv => lhs; rw [ba_of rest, ba_app, ba_list]
  unfold text_Unquote.f
  refine Ends.pos hz (Ends.pos (by rw [hd]; rfl) ?_)
  rw [lineOf_eq, hd, line_of _ _ (flat_no10 s)]
  have := unq_all s hs ((quoteB s (runesL s) ++ [34]) ++ rest.data.toList.takeWhile (fun c => c != 10)) (rest.data.toList.takeWhile (fun c => c != 10)) s.size 0 1 (by omega) (by omega) (by simp [quoteB, runesL])
  refine this.val ?_
  congr 2
  unfold quoteB runesL
  simp only [List.length_append, List.length_cons, List.length_nil]
  push_cast; omega
end Go.Proofs.YthijdjpipjbkbaaDoor.H
end
section
namespace Go.Proofs.YthijdjpipjbkbaaDoor.H
open Go.RowKit Go.Proofs.YthijdjpipjbkbaaDoorW.PrintWords Go.Proofs.YthijdjpipjbkbaaDoorW.PrintLast Go.Proofs.YthijdjpipjbkbaaDoorW.PrintMore
set_option linter.unusedVariables false
set_option linter.unusedSimpArgs false
def Stop (r : List UInt8) : Prop := ∀ c t, r = c :: t → wordB c.toNat = false
theorem run_app (x r : List UInt8) (hx : ∀ c ∈ x, wordB c.toNat = true) (hr : Stop r) : runLen (x ++ r) = x.length := by
  induction x with
  | nil =>
    cases r with
    | nil => rfl
    | cons c t => rw [List.nil_append, runLen_cons, if_neg (by rw [hr c t rfl]; simp)]; rfl
  | cons c x ih =>
    rw [List.cons_append, runLen_cons, if_pos (hx c List.mem_cons_self), ih fun y hy => hx y (List.mem_cons_of_mem _ hy)]; rfl
theorem run_split (l : List UInt8) : ∃ x r, l = x ++ r ∧ (∀ c ∈ x, wordB c.toNat = true) ∧ Stop r := by
  refine ⟨l.takeWhile fun c => wordB c.toNat, l.dropWhile fun c => wordB c.toNat, List.takeWhile_append_dropWhile.symm, ?_, ?_⟩
  · induction l with
    | nil => intro c h; simp at h
    | cons a l ih =>
      intro c h
      rw [List.takeWhile_cons] at h
      split at h
      · rename_i ha
        rcases List.mem_cons.1 h with rfl | h
        · exact ha
        · exact ih c h
      · simp at h
  · induction l with
    | nil => intro c t h; simp at h
    | cons a l ih =>
      intro c t h
      rw [List.dropWhile_cons] at h
      split at h
      · exact ih c t h
      · rename_i ha
        injection h with e _
        rw [← e]; simpa using ha
theorem take_app (x r : List UInt8) : (ba (x ++ r)).extract 0 x.length = ba x := by
  refine ba_ext ?_
  rw [ext_dt, ba_list, ba_list, List.drop_zero, Nat.sub_zero, List.take_left']
  rfl
theorem ba_len (l : List UInt8) : (ba l).size = l.length := ba_size l
theorem bt_cons (c : UInt8) (l : List UInt8) : bt (ba (c :: l)) 0 = (c.toNat : Int) := by
  have := bt_ba (l := c :: l) (i := 0) (c := c) (t := l) rfl
  exact this.2
theorem run_ba (l : List UInt8) : speclex_run.f (ba l) = some (runLen l : Int) := by unfold speclex_run.f; rw [ba_list]
theorem digB_word {c : Nat} (h : digB c = true) : wordB c = true := by unfold wordB; rw [show ((48 ≤ c && c ≤ 57) : Bool) = true from h, Bool.or_true]
theorem letB_word {c : Nat} (h : letB c = true) : wordB c = true := by unfold wordB; rw [h, Bool.true_or]
section
variable (r : List UInt8)
theorem one_name (c : UInt8) (l : List UInt8) (hc : letB c.toNat = true) (hl : ∀ x ∈ l, wordB x.toNat = true) (hr : Stop r) : Ends (fun k => speclex_one.f k (ba (c :: l ++ r)) (cls c.toNat : Int)) (1, ba (c :: l), 0, ((c :: l).length : Int), 0) := by
  have hrun : runLen (c :: l ++ r) = (c :: l).length := run_app (c :: l) r (fun x hx => by rcases List.mem_cons.1 hx with rfl | hx; exact letB_word hc; exact hl x hx) hr
  unfold speclex_one.f
  rw [cls_letter _ c.toNat_lt hc, run_ba, hrun]
  refine Ends.pos rfl (Ends.bind0 rfl (Ends.pos (by omega) (Ends.pos ?_ ((Ends.const _).val ?_))))
  · rw [ba_len, List.length_append]; omega
  · rw [Int.toNat_natCast, take_app]
theorem one_number (c : UInt8) (l : List UInt8) (hc : letB c.toNat = false) (hd : digB c.toNat = true) (hl : ∀ x ∈ l, wordB x.toNat = true) (hr : Stop r) (hs : (c :: l ++ r).length ≤ 1000000) :
    Ends (fun k => speclex_one.f k (ba (c :: l ++ r)) (cls c.toNat : Int)) (if l ≠ [] ∧ c.toNat = 48 then (0, (⟨#[]⟩ : ByteArray), 0, 0, 14) else if (c :: l).all (fun x => digB x.toNat) = true then (4, ba (c :: l), 0, ((c :: l).length : Int), 0) else (0, (⟨#[]⟩ : ByteArray), 0, 0, 14)) := by
  have hrun : runLen (c :: l ++ r) = (c :: l).length := run_app (c :: l) r (fun x hx => by rcases List.mem_cons.1 hx with rfl | hx; exact digB_word hd; exact hl x hx) hr
  have hz : (ba (c :: l ++ r)).size = (c :: l ++ r).length := ba_len _
  rw [List.length_append] at hz hs
  have htn := trim_nil (c :: l)
  have tl : ∀ {v : Int × ByteArray × Int × Int × Int}, (if (c :: l).all (fun x => digB x.toNat) = true then ((4 : Int), ba (c :: l), (0 : Int), ((c :: l).length : Int), (0 : Int)) else (0, (⟨#[]⟩ : ByteArray), 0, 0, 14)) = v → Ends (fun _ : Nat => (strings_Trim.f ((ba (c :: l ++ r)).extract 0 (((c :: l).length : Int)).toNat) (⟨#[48, 49, 50, 51, 52, 53, 54, 55, 56, 57]⟩ : ByteArray)).bind fun t => (if t.toList = ([] : List UInt8) then (some ((4 : Int), (ba (c :: l ++ r)).extract 0 (((c :: l).length : Int)).toNat, (0 : Int), ((c :: l).length : Int), (0 : Int))) else (some (0, (⟨#[]⟩ : ByteArray), 0, 0, 14)))) v := fun {v} hv => by
    rw [Int.toNat_natCast, take_app]
    have ht := trim_val (ba (c :: l)) (by rw [ba_len]; omega)
    rw [ba_list] at ht
    refine Ends.bind0 ht ?_
    cases hq : (c :: l).all (fun x => digB x.toNat) with
    | true => exact Ends.pos (htn.2 hq) ((Ends.const _).val (by rw [← hv, hq]; rfl))
    | false => exact Ends.neg (fun h => by rw [htn.1 h] at hq; cases hq) ((Ends.const _).val (by rw [← hv, hq]; rfl))
  have hb0 : bt (ba (c :: l ++ r)) 0 = (c.toNat : Int) := bt_cons c (l ++ r)
  have hlen : (c :: l).length = l.length + 1 := rfl
  unfold speclex_one.f
  rw [cls_digit _ c.toNat_lt hc hd, run_ba, hrun, hb0]
  refine Ends.neg (by decide) (Ends.pos rfl (Ends.bind0 rfl ?_))
  by_cases h1 : l = []
  · refine Ends.neg (by rw [h1]; simp) (Ends.pos (by omega) (Ends.pos (by omega) (tl (by rw [if_neg (show ¬ (l ≠ [] ∧ c.toNat = 48) from fun h => h.1 h1)]))))
  · have h2 : 1 ≤ l.length := by cases l with
      | nil => exact absurd rfl h1
      | cons a b => simp
    refine Ends.pos (by omega) (Ends.pos (by omega) ?_)
    by_cases h48 : c.toNat = 48
    · exact Ends.pos (by omega) ((Ends.const _).val (by rw [if_pos ⟨h1, h48⟩]))
    · exact Ends.neg (by omega) (Ends.pos (by omega) (Ends.pos (by omega) (tl (by rw [if_neg (show ¬ (l ≠ [] ∧ c.toNat = 48) from fun h => h48 h.2)]))))
theorem one_percent (l : List UInt8) (hl : ∀ x ∈ l, wordB x.toNat = true) (hr : Stop r) (hs : (37 :: l ++ r).length ≤ 1000000) :
    Ends (fun k => speclex_one.f k (ba (37 :: l ++ r)) (cls 37 : Int)) (if (wordsL.any fun w => w.toList == (ba (37 :: l)).toList) = true then (5, ba (37 :: l), 0, ((37 :: l : List UInt8).length : Int), 0) else (6, ba [37], 0, 1, 0)) := by
  have hrun : runLen (l ++ r) = l.length := run_app l r hl hr
  have hz : (ba (37 :: l ++ r)).size = (37 :: l ++ r).length := ba_len _
  rw [List.length_append, List.length_cons] at hz hs
  have hex : (ba (37 :: l ++ r)).extract 1 (ba (37 :: l ++ r)).size = ba (l ++ r) := by have := ba_drop (37 :: l ++ r) 1; simpa using this
  have HW1 := Aside0.mk (show wrap64 (1 + (l.length : Int)) = ((1 + l.length : Nat) : Int) from wsum 1 l.length (by omega))
  have hex2 : (ba (37 :: l ++ r)).extract 0 (1 + l.length) = ba (37 :: l) := by have := take_app (37 :: l) r; rw [show (37 :: l : List UInt8).length = 1 + l.length by simp; omega] at this; exact this
  have hex1 : (ba (37 :: l ++ r)).extract 0 1 = ba [37] := take_app [37] (l ++ r)
  unfold speclex_one.f
  refine Ends.neg (by decide) (Ends.neg (by decide) (Ends.neg (by decide) (Ends.neg (by decide) (Ends.pos (by rfl) (Ends.pos (by omega) ?_)))))
  rw [hex, run_ba, hrun]
  refine Ends.bind0 rfl ?_
  rw [HW1.out, Int.toNat_natCast, hex2]
  refine Ends.pos (by omega) (Ends.pos (by omega) (Ends.bind0 (a := wordsL.any fun w => w.toList == (ba (37 :: l)).toList) rfl ?_))
  by_cases hw : (wordsL.any fun w => w.toList == (ba (37 :: l)).toList) = true
  · refine (Ends.pos hw (Ends.const _)).val ?_
    rw [if_pos hw, show ((1 + l.length : Nat) : Int) = ((37 :: l : List UInt8).length : Int) by simp; omega]
  · refine (Ends.neg hw (Ends.pos (by decide) (Ends.const _))).val ?_
    rw [if_neg hw, hex1]
theorem one_sign (c : UInt8) (h : isSign c.toNat = true) : Ends (fun k => speclex_one.f k (ba (c :: r)) (cls c.toNat : Int)) (6, ba [c], 0, 1, 0) := by
  have hcs := sign_cases h
  have hk : cls c.toNat = 6 ∨ cls c.toNat = 8 := by
    rcases hcs with q | q | q | q | q | q | q | q | q | q | q <;> rw [q] <;> decide
  have hex1 : (ba (c :: r)).extract 0 1 = ba [c] := take_app [c] r
  unfold speclex_one.f
  refine Ends.neg (by omega) (Ends.neg (by omega) (Ends.neg (by omega) (Ends.neg (by omega) (Ends.neg (by omega) (Ends.neg (by omega) (Ends.pos (by decide) (Ends.pos (by rw [ba_len, List.length_cons]; omega) ((Ends.const _).val ?_))))))))
  rw [hex1]
theorem one_bad (c : UInt8) (h : cls c.toNat = 0) : Ends (fun k => speclex_one.f k (ba (c :: r)) (cls c.toNat : Int)) (0, ⟨#[]⟩, 0, 0, 12) := by
  unfold speclex_one.f
  exact Ends.neg (by omega) (Ends.neg (by omega) (Ends.neg (by omega) (Ends.neg (by omega) (Ends.neg (by omega) (Ends.pos (by omega) (Ends.const _))))))
end
def termL : Bool → List UInt8 → Option Nat
  | _, [] => none
  | b, c :: l => if c = 10 then none else if b then (termL false l).map (· + 1) else if c = 92 then (termL true l).map (· + 1) else if c = 47 then some 0 else (termL false l).map (· + 1)
theorem termL_lt : ∀ (l : List UInt8) (b : Bool) (m : Nat), termL b l = some m → m < l.length := by
  intro l
  induction l with
  | nil => intro b m h; cases b <;> cases h
  | cons c l ih =>
    intro b m h
    simp only [termL] at h
    split at h
    · cases h
    split at h
    · obtain ⟨x, hx, rfl⟩ := Option.map_eq_some_iff.1 h
      have := ih _ _ hx; simp only [List.length_cons]; omega
    split at h
    · obtain ⟨x, hx, rfl⟩ := Option.map_eq_some_iff.1 h
      have := ih _ _ hx; simp only [List.length_cons]; omega
    split at h
    · cases h; simp
    · obtain ⟨x, hx, rfl⟩ := Option.map_eq_some_iff.1 h
      have := ih _ _ hx; simp only [List.length_cons]; omega
theorem termL_take : ∀ (l : List UInt8) (b : Bool) (m : Nat), termL b l = some m → ∀ r, termL b (l.take m ++ 47 :: r) = some m := by
  intro l
  induction l with
  | nil => intro b m h; cases b <;> cases h
  | cons c l ih =>
    intro b m h r
    simp only [termL] at h
    split at h
    · cases h
    rename_i h10
    split at h
    · rename_i hb
      obtain ⟨x, hx, rfl⟩ := Option.map_eq_some_iff.1 h
      rw [List.take_succ_cons, List.cons_append, termL, if_neg h10, if_pos hb, ih _ _ hx]; rfl
    rename_i hb
    split at h
    · rename_i h92
      obtain ⟨x, hx, rfl⟩ := Option.map_eq_some_iff.1 h
      rw [List.take_succ_cons, List.cons_append, termL, if_neg h10, if_neg hb, if_pos h92, ih _ _ hx]; rfl
    rename_i h92
    split at h
    · cases h
      rw [List.take_zero, List.nil_append, termL, if_neg (by decide), if_neg hb, if_neg (by decide), if_pos rfl]
    · rename_i h47
      obtain ⟨x, hx, rfl⟩ := Option.map_eq_some_iff.1 h
      rw [List.take_succ_cons, List.cons_append, termL, if_neg h10, if_neg hb, if_neg h92, if_neg h47, ih _ _ hx]; rfl
theorem term_ends (L : List UInt8) (hL : L.length ≤ 1000000) : ∀ (l : List UInt8) (j : Nat) (b : Bool), L.drop j = l → Ends (fun k => speclex_term.l0 k (ba L) b (j : Int)) (match termL b l with | some m => ((j + m + 1 : Nat) : Int) | none => 0) := by
  intro l
  induction l with
  | nil =>
    intro j b h
    have := drop_nil h
    refine Ends.step (fun k => speclex_term.l0.eq_2 ..) (Ends.neg (by rw [ba_len]; omega) (Ends.step (fun k => speclex_term.j1.eq_2 ..) (Ends.neg (by simp) ((Ends.const _).val ?_))))
    cases b <;> rfl
  | cons c l ih =>
    intro j b h
    obtain ⟨hlt, hr, _⟩ := drop_cons h
    obtain ⟨_, hbt⟩ := bt_ba h
    have hn : Aside0 (wrap64 ((j : Int) + 1) = ((j + 1 : Nat) : Int)) := ⟨next_nat j (by omega)⟩
    have tr : ∀ b', (match (termL b' l).map (· + 1) with | some m => ((j + m + 1 : Nat) : Int) | none => 0) = (match termL b' l with | some m => ((j + 1 + m + 1 : Nat) : Int) | none => 0) := fun b' => by
      cases termL b' l with
      | none => rfl
      | some m => show ((j + (m + 1) + 1 : Nat) : Int) = ((j + 1 + m + 1 : Nat) : Int); congr 1; omega
    refine Ends.step (fun k => speclex_term.l0.eq_2 ..) (Ends.pos (by rw [ba_len]; omega) (Ends.pos (by omega) ?_))
    rw [hbt, bne10 c.toNat]
    simp only [termL]
    by_cases h10 : c = 10
    · rw [if_pos h10]
      subst h10
      exact Ends.step (fun k => speclex_term.j1.eq_2 ..) (Ends.neg (by decide) (Ends.const _))
    have hc10 : c.toNat ≠ 10 := fun q => h10 (UInt8.toNat_inj.1 q)
    rw [if_neg h10, show (c.toNat != 10 : Bool) = true by simpa using hc10]
    refine Ends.step (fun k => speclex_term.j1.eq_2 ..) (Ends.pos rfl ?_)
    cases b with
    | true =>
      rw [if_pos rfl, hn.out]
      exact Ends.pos rfl ((ih (j + 1) false hr).val (tr false).symm)
    | false =>
      rw [if_neg (by simp)]
      refine Ends.neg (by simp) (Ends.pos (by omega) (Ends.pos (by rw [ba_len]; omega) ?_))
      rw [hbt, hn.out]
      by_cases h92 : c = 92
      · rw [if_pos h92]
        exact Ends.pos (by rw [h92]; rfl) ((ih (j + 1) true hr).val (tr true).symm)
      have hc92 : c.toNat ≠ 92 := fun q => h92 (UInt8.toNat_inj.1 q)
      rw [if_neg h92]
      refine Ends.neg (by omega) ?_
      by_cases h47 : c = 47
      · rw [if_pos h47]
        exact Ends.pos (by rw [h47]; rfl) (Ends.const _)
      have hc47 : c.toNat ≠ 47 := fun q => h47 (UInt8.toNat_inj.1 q)
      rw [if_neg h47]
      exact Ends.neg (by omega) ((ih (j + 1) false hr).val (tr false).symm)
theorem one_regex (l : List UInt8) (hs : (47 :: l).length ≤ 1000000) : Ends (fun k => speclex_one.f k (ba (47 :: l)) (cls 47 : Int)) (match termL false l with | some m => (3, ba (l.take m), 0, ((m + 2 : Nat) : Int), 0) | none => (0, (⟨#[]⟩ : ByteArray), 0, 0, 13)) := by
  have ht := term_ends (47 :: l) hs l 1 false rfl
  unfold speclex_one.f
  refine Ends.neg (by decide) (Ends.neg (by decide) (Ends.neg (by decide) (Ends.pos (by rfl) (Ends.bind ht ?_))))
  cases hm : termL false l with
  | none => exact Ends.pos rfl (Ends.const _)
  | some m =>
    have hlt := termL_lt _ _ _ hm
    have hlen : (47 :: l : List UInt8).length = l.length + 1 := rfl
    have HW := Aside0.mk (show wrap64 (((1 + m + 1 : Nat) : Int) - 1) = ((m + 1 : Nat) : Int) from (congrArg wrap64 (by push_cast; omega)).trans (wrap_nat (m + 1) (by omega)))
    dsimp only
    rw [HW.out]
    refine Ends.neg (by omega) (Ends.pos (by omega) (Ends.pos (by rw [ba_len]; omega) ((Ends.const _).val ?_)))
    rw [Int.toNat_natCast, show (ba (47 :: l)).extract 1 (m + 1) = ba (l.take m) from ba_ext (by rw [ext_dt, ba_list, ba_list]; rfl), show ((1 + m + 1 : Nat) : Int) = ((m + 2 : Nat) : Int) by congr 1; omega]
end Go.Proofs.YthijdjpipjbkbaaDoor.H
end
section
namespace Go.Proofs.YthijdjpipjbkbaaDoor.H
open Go.RowKit Go.Proofs.YthijdjpipjbkbaaDoorW.PrintWords Go.Proofs.YthijdjpipjbkbaaDoorW.PrintLast Go.Proofs.YthijdjpipjbkbaaDoorW.PrintMore
set_option linter.unusedVariables false
set_option linter.unusedSimpArgs false
section
set_option maxRecDepth 100000
theorem cls8 (c : Nat) (h : c < 256) : cls c = 8 ↔ c = 35 := by
  have H : ∀ c : Fin 256, cls (c : Nat) = 8 ↔ (c : Nat) = 35 := by decide
  exact H ⟨c, h⟩
end
section
variable {s : ByteArray} (hs : s.size ≤ 100000) {i : Nat}
include hs
end
theorem nl_some {s : ByteArray} {i : Nat} (hi : i ≤ s.size) (h : 0 ≤ nlAt s i) : ∃ j, nlAt s i = ((j - i : Nat) : Int) ∧ i ≤ j ∧ j < s.size ∧ byteAt s j = 10 ∧ ∀ q, i ≤ q → q < j → byteAt s q ≠ 10 := by
  obtain ⟨o, ho⟩ := Int.eq_ofNat_of_zero_le h
  have hh := Lib.indexByte_some (show Lib.indexByte (s.extract i s.size).data.toList 10 = (o : Int) from ho)
  obtain ⟨h1, h2⟩ := hh
  rw [ext_list, List.getElem?_drop] at h1
  have hlt : i + o < s.size := by
    rcases Nat.lt_or_ge (i + o) s.size with q | q
    · exact q
    · rw [List.getElem?_eq_none (by rw [Array.length_toList]; exact q)] at h1; cases h1
  have at' : ∀ q, q < s.size → ∀ c, s.data.toList[q]? = some c → byteAt s q = c.toNat := fun q hq c hc => by
    obtain ⟨d, hd, hb⟩ := byte_cons s q hq
    have e := congrArg (·[0]?) hd
    simp only [List.getElem?_drop, Nat.add_zero, List.getElem?_cons_zero] at e
    rw [hc] at e
    rw [Option.some.inj e]; exact hb.symm
  refine ⟨i + o, by rw [ho]; congr 1; omega, by omega, hlt, at' _ hlt _ h1, fun q hq1 hq2 hq3 => ?_⟩
  obtain ⟨d, hd, hb⟩ := byte_cons s q (by omega)
  have e := congrArg (·[0]?) hd
  simp only [List.getElem?_drop, Nat.add_zero, List.getElem?_cons_zero] at e
  refine h2 (q - i) (by omega) ?_
  rw [ext_list, List.getElem?_drop, show i + (q - i) = q by omega, e]
  exact congrArg some (UInt8.toNat_inj.1 (by show d.toNat = 10; omega))
end Go.Proofs.YthijdjpipjbkbaaDoor.H
end
section
namespace Go.Proofs.YthijdjpipjbkbaaDoor.H
open Go.RowKit Go.Proofs.YthijdjpipjbkbaaDoorW.PrintWords Go.Proofs.YthijdjpipjbkbaaDoorW.PrintLast Go.Proofs.YthijdjpipjbkbaaDoorW.PrintMore
set_option linter.unusedVariables false
set_option linter.unusedSimpArgs false
theorem enc_size (z : Int) : (Utf8.encode z).size ≤ 4 := by
  unfold Utf8.encode
  simp only []
  repeat' split
  all_goals exact Nat.le_of_ble_eq_true rfl
theorem encR_size (z : Int) : (Lib.encodeRune z).length ≤ 4 := by
  unfold Lib.encodeRune Lib.encodeRuneZ
  rw [List.length_map]
  repeat' split
  all_goals simp
theorem escape_size (k : Nat) (s : ByteArray) (t : ByteArray) (n : Int) (h : text_escape.f k s = some (t, n)) : t.size ≤ 5 := by
  have z0 : (⟨#[]⟩ : ByteArray).size ≤ 5 := by decide
  have j0 : ∀ a b, text_escape.j0 k s a b = some (t, n) → t.size ≤ 5 := fun a b h => by
    cases k with
    | zero => simp [text_escape.j0] at h
    | succ k =>
      simp only [text_escape.j0] at h
      split at h
      case isFalse => cases h
      obtain ⟨x, _, h⟩ := Option.bind_eq_some_iff.1 h
      split at h
      · cases h; exact z0
      split at h
      · cases h
        exact Nat.le_of_ble_eq_true rfl
      · obtain ⟨y, _, h⟩ := Option.bind_eq_some_iff.1 h
        split at h
        · cases h; exact Nat.le_trans (enc_size _) (by decide)
        · cases h; exact z0
  have ex : ∀ a b, ((⟨#[34, 92, 10, 13, 9]⟩ : ByteArray).extract a b).size ≤ 5 := fun a b => by
    rw [ByteArray.size_extract]
    have : (⟨#[34, 92, 10, 13, 9]⟩ : ByteArray).size = 5 := rfl
    omega
  unfold text_escape.f at h
  split at h
  · cases h; exact z0
  split at h
  case isFalse => cases h
  obtain ⟨x, _, h⟩ := Option.bind_eq_some_iff.1 h
  repeat' (split at h)
  all_goals first
    | exact j0 _ _ h
    | (cases h; exact ex _ _)
    | (cases h; exact z0)
    | cases h
theorem unq_size : ∀ (k : Nat) (line : ByteArray) (acc : List UInt8) (p : Nat) (t : ByteArray) (n : Int), text_Unquote.l0 k line acc p = some (t, n, 0) → t.size ≤ acc.length + 5 * (line.size - p) := by
  intro k
  induction k with
  | zero => intro line acc p t n h; simp [text_Unquote.l0] at h
  | succ k ih =>
    intro line acc p t n h
    have w1 := rune_w_pos line p
    simp only [text_Unquote.l0] at h
    split at h
    case isFalse => simp at h
    rename_i hp
    split at h
    · simp only [Option.some.injEq, Prod.mk.injEq] at h
      obtain ⟨rfl, _, _⟩ := h
      have : (ba acc).size = acc.length := ba_size acc
      show (ba acc).size ≤ _
      omega
    split at h
    · obtain ⟨x, hx, h⟩ := Option.bind_eq_some_iff.1 h
      have hes := escape_size _ _ x.1 x.2 hx
      split at h
      · simp at h
      split at h
      · simp at h
      split at h
      · split at h
        · have := ih _ _ _ _ _ h
          rw [List.length_append, show x.1.data.toList.length = x.1.size from Array.length_toList] at this
          omega
        · cases h
      · cases h
    split at h
    · simp at h
    split at h
    · have := ih _ _ _ _ _ h
      have h4 := encR_size ((Utf8.decode line p).1 : Int)
      rw [List.length_append] at this
      omega
    · cases h
theorem word37 : (wordsL.any fun w => w.toList == (ba [37]).toList) = false := by
  simp only [Lib.toList_data]
  decide
inductive GoodTok : Int → ByteArray → Prop
  | name (c : UInt8) (l : List UInt8) (hc : letB c.toNat = true) (hl : ∀ x ∈ l, wordB x.toNat = true) (hs : l.length ≤ 4000) : GoodTok 1 (ba (c :: l))
  | number (c : UInt8) (l : List UInt8) (hc : letB c.toNat = false) (h : (c :: l).all (fun x => digB x.toNat) = true) (h0 : ¬ (l ≠ [] ∧ c.toNat = 48)) (hs : l.length ≤ 4000) : GoodTok 4 (ba (c :: l))
  | keyword (l : List UInt8) (hl : ∀ x ∈ l, wordB x.toNat = true) (hw : (wordsL.any fun w => w.toList == (ba (37 :: l)).toList) = true) (hs : l.length ≤ 4000) : GoodTok 5 (ba (37 :: l))
  | sign (c : UInt8) (h : isSign c.toNat = true) : GoodTok 6 (ba [c])
  | percent : GoodTok 6 (ba [37])
  | regex (l : List UInt8) (h : ∀ r, termL false (l ++ 47 :: r) = some l.length) (hs : l.length ≤ 4000) : GoodTok 3 (ba l)
  | literal (t : ByteArray) (h : t.size ≤ 6000) : GoodTok 2 t
def isHash (k : Int) (t : ByteArray) : Prop := k = 6 ∧ t = ba [35]
theorem GoodTok.size {k : Int} {t : ByteArray} (h : GoodTok k t) : t.size ≤ 6001 := by
  cases h <;> (try rw [ba_len]) <;> (try simp only [List.length_cons, List.length_nil]) <;> omega
theorem digL_word {l : List UInt8} (h : l.all (fun x => digB x.toNat) = true) : ∀ x ∈ l, wordB x.toNat = true := fun x hx => digB_word (List.all_eq_true.1 h x hx)
theorem tok_good (c : UInt8) (l : List UInt8) (hs : (c :: l).length ≤ 1000) (h7 : cls c.toNat ≠ 7) : ∃ (k : Int) (t : ByteArray) (n e : Int), Ends (fun f => speclex_one.f f (ba (c :: l)) (cls c.toNat : Int)) (k, t, 0, n, e) ∧
    (e = 0 → ∃ nn : Nat, n = (nn : Int) ∧ 1 ≤ nn ∧ nn ≤ (c :: l).length ∧ GoodTok k t ∧ (isHash k t → c = 35 ∧ nn = 1) ∧ (letB c.toNat = true → k = 1)) := by
  have hb2 := c.toNat_lt
  have hlen : (c :: l).length = l.length + 1 := rfl
  obtain ⟨x, r, hxr, hx, hr⟩ := run_split l
  have hlx : l.length = x.length + r.length := by rw [hxr, List.length_append]
  cases hl : letB c.toNat with
  | true =>
    refine ⟨1, ba (c :: x), ((c :: x).length : Int), 0, by rw [hxr]; exact one_name r c x hl hx hr, fun _ => ⟨(c :: x).length, rfl, by simp, by simp only [List.length_cons]; omega, .name c x hl hx (by omega), (fun h => absurd h.1 (by decide)), fun _ => rfl⟩⟩
  | false =>
  cases hd : digB c.toNat with
  | true =>
    have h1 := one_number r c x hl hd hx hr (by rw [List.length_append, List.length_cons]; omega)
    by_cases hz : x ≠ [] ∧ c.toNat = 48
    · rw [if_pos hz] at h1
      exact ⟨0, ⟨#[]⟩, 0, 14, by rw [hxr]; exact h1, fun h => by cases h⟩
    · rw [if_neg hz] at h1
      by_cases ha : (c :: x).all (fun x => digB x.toNat) = true
      · rw [if_pos ha] at h1
        exact ⟨4, ba (c :: x), ((c :: x).length : Int), 0, by rw [hxr]; exact h1, fun _ => ⟨(c :: x).length, rfl, by simp, by simp only [List.length_cons]; omega, .number c x hl ha hz (by omega), (fun h => absurd h.1 (by decide)), (fun h => by cases h)⟩⟩
      · rw [if_neg ha] at h1
        exact ⟨0, ⟨#[]⟩, 0, 14, by rw [hxr]; exact h1, fun h => by cases h⟩
  | false =>
  by_cases h34 : c = 34
  · subst h34
    obtain ⟨⟨t, m, e⟩, g1, _⟩ := unquote_same (ba (34 :: l)) (by rw [ba_len]; omega)
    refine ⟨2, t, m, e, ?_, fun he => ?_⟩
    · unfold speclex_one.f
      exact Ends.neg (by decide) (Ends.neg (by decide) (Ends.pos (by rfl) (Ends.bind g1 (Ends.const _))))
    · subst he
      obtain ⟨k, hk⟩ := Ends.get g1
      unfold text_Unquote.f at hk
      split at hk
      · split at hk
        · have h1 := unq_bound _ _ _ _ _ _ hk
          have h2 := lineOf_size (ba (34 :: l))
          have h3 := unq_size _ _ _ _ _ _ hk
          rw [ba_len] at h2
          obtain ⟨mm, rfl⟩ := Int.eq_ofNat_of_zero_le (show 0 ≤ m by omega)
          exact ⟨mm, rfl, by omega, by omega, .literal t (by simp only [List.length_nil] at h3; omega), (fun h => absurd h.1 (by decide)), (fun h => by cases h)⟩
        · simp at hk
      · cases hk
  by_cases h47 : c = 47
  · subst h47
    have h1 := one_regex l (by omega)
    cases hm : termL false l with
    | none =>
      rw [hm] at h1
      exact ⟨0, ⟨#[]⟩, 0, 13, h1, fun h => by cases h⟩
    | some m =>
      rw [hm] at h1
      have hlt := termL_lt _ _ _ hm
      have htl : (l.take m).length = m := by rw [List.length_take]; omega
      exact ⟨3, ba (l.take m), ((m + 2 : Nat) : Int), 0, h1, fun _ => ⟨m + 2, rfl, by omega, by omega, .regex (l.take m) (fun r => by rw [termL_take l false m hm r, htl]) (by omega), (fun h => absurd h.1 (by decide)), (fun h => by cases h)⟩⟩
  by_cases h37 : c = 37
  · subst h37
    have h1 := one_percent r x hx hr (by rw [List.length_append, List.length_cons]; omega)
    by_cases hw : (wordsL.any fun w => w.toList == (ba (37 :: x)).toList) = true
    · rw [if_pos hw] at h1
      exact ⟨5, ba (37 :: x), ((37 :: x : List UInt8).length : Int), 0, by rw [hxr]; exact h1, fun _ => ⟨(37 :: x : List UInt8).length, rfl, by simp, by simp only [List.length_cons]; omega, .keyword x hx hw (by omega), (fun h => absurd h.1 (by decide)), (fun h => by cases h)⟩⟩
    · rw [if_neg hw] at h1
      refine ⟨6, ba [37], 1, 0, by rw [hxr]; exact h1, fun _ => ⟨1, rfl, by omega, by omega, .percent, (fun h => ?_), (fun h => by cases h)⟩⟩
      have := congrArg (fun b : ByteArray => b.data.toList) h.2
      simp only [ba_list] at this
      injection this with e _
      exact absurd e (by decide)
  rcases cls_rest c.toNat hb2 hl hd (fun q => h34 (UInt8.toNat_inj.1 q)) (fun q => h47 (UInt8.toNat_inj.1 q)) (fun q => h37 (UInt8.toNat_inj.1 q)) with h | ⟨h, hsg⟩ | ⟨h, hsg⟩
  · exact absurd h h7
  · refine ⟨6, ba [c], 1, 0, one_sign l c hsg, fun _ => ⟨1, rfl, by omega, by omega, .sign c hsg, (fun h => ⟨?_, rfl⟩), (fun h => by cases h)⟩⟩
    have := congrArg (fun b : ByteArray => b.data.toList) h.2
    simp only [ba_list] at this
    injection this with e _
  · exact ⟨0, ⟨#[]⟩, 0, 12, one_bad l c h, fun h => by cases h⟩
theorem tok_back {m : S32} (hg : GoodTok m.f0 m.f1) (r : List UInt8) (hr : Stop r ∨ isHash m.f0 m.f1) (hs : r.length ≤ 100000) : ∃ (c : UInt8) (l : List UInt8), tokB m = c :: l ∧ cls c.toNat ≠ 7 ∧ (c = 35 → isHash m.f0 m.f1) ∧ (m.f0 = 1 → letB c.toNat = true) ∧
    Ends (fun f => speclex_one.f f (ba (c :: l ++ r)) (cls c.toNat : Int)) (m.f0, m.f1, 0, ((c :: l).length : Int), 0) := by
  obtain ⟨k, t, at'⟩ := m
  dsimp only at hg hr ⊢
  have hst : k ≠ 6 → Stop r := fun h => hr.resolve_right (fun q => h q.1)
  have ne35 : ∀ c : UInt8, c.toNat ≠ 35 → c ≠ 35 := fun c h q => h (by rw [q]; rfl)
  cases hg with
  | name c l hc hl hz =>
    refine ⟨c, l, by unfold tokB; simp [ba], ?_, (fun q => ?_), fun _ => hc, one_name r c l hc hl (hst (by decide))⟩
    · rw [cls_letter _ c.toNat_lt hc]; decide
    · rw [q] at hc; exact absurd hc (by decide)
  | number c l hc h h0 hz =>
    have hd : digB c.toNat = true := by rw [List.all_cons, Bool.and_eq_true] at h; exact h.1
    have hl : ∀ x ∈ l, wordB x.toNat = true := fun x hx => digL_word h x (List.mem_cons_of_mem _ hx)
    have h1 := one_number r c l hc hd hl (hst (by decide)) (by rw [List.length_append, List.length_cons]; omega)
    rw [if_neg h0, if_pos h] at h1
    refine ⟨c, l, by unfold tokB; simp [ba], ?_, (fun q => ?_), (fun q => by cases q), h1⟩
    · rw [cls_digit _ c.toNat_lt hc hd]; decide
    · rw [q] at hd; exact absurd hd (by decide)
  | keyword l hl hw hz =>
    have h1 := one_percent r l hl (hst (by decide)) (by rw [List.length_append, List.length_cons]; omega)
    rw [if_pos hw] at h1
    exact ⟨37, l, by unfold tokB; simp [ba], by decide, (fun q => by cases q), (fun q => by cases q), h1⟩
  | sign c h =>
    refine ⟨c, [], by unfold tokB; simp [ba], ?_, (fun q => ⟨rfl, by rw [q]⟩), (fun q => by cases q), one_sign r c h⟩
    rcases sign_cases h with q | q | q | q | q | q | q | q | q | q | q <;> rw [q] <;> decide
  | percent =>
    have hr2 : Stop r := hr.resolve_right (fun q => by
      have := congrArg (fun b : ByteArray => b.data.toList) q.2
      simp only [ba_list] at this
      injection this with e _
      exact absurd e (by decide))
    have h1 := one_percent r [] (fun x hx => by cases hx) hr2 (by rw [List.length_append]; simp; omega)
    rw [if_neg (by rw [word37]; simp)] at h1
    exact ⟨37, [], by unfold tokB; simp [ba], by decide, (fun q => by cases q), (fun q => by cases q), h1⟩
  | regex l h hz =>
    have h1 := one_regex (l ++ 47 :: r) (by rw [List.length_cons, List.length_append, List.length_cons]; omega)
    rw [h r] at h1
    have e : (l ++ 47 :: r).take l.length = l := List.take_left' rfl
    simp only [e] at h1
    refine ⟨47, l ++ [47], by unfold tokB; simp [ba], by decide, (fun q => by cases q), (fun q => by cases q), ?_⟩
    have e2 : (47 :: (l ++ [47]) ++ r : List UInt8) = 47 :: (l ++ 47 :: r) := by simp
    rw [e2]
    refine h1.val ?_
    congr 3
    simp; omega
  | literal t h =>
    have h1 := unquote_quoted t (ba r) (by omega) (by rw [ba_len]; omega)
    rw [ba_app] at h1
    refine ⟨34, (runesL t).flatMap (escOf t) ++ [34], by unfold tokB quoteB; simp, by decide, (fun q => by cases q), (fun q => by cases q), ?_⟩
    unfold speclex_one.f
    have e : (34 :: ((runesL t).flatMap (escOf t) ++ [34]) ++ r : List UInt8) = quoteB t (runesL t) ++ [34] ++ r := by unfold quoteB; simp
    rw [e]
    refine Ends.neg (by decide) (Ends.neg (by decide) (Ends.pos (by rfl) (Ends.bind h1 ((Ends.const _).val ?_))))
    unfold quoteB
    simp
end Go.Proofs.YthijdjpipjbkbaaDoor.H
end
section
namespace Go.Proofs.YthijdjpipjbkbaaDoor.H
open Go.RowKit Go.Proofs.YthijdjpipjbkbaaDoorW.PrintWords Go.Proofs.YthijdjpipjbkbaaDoorW.PrintLast Go.Proofs.YthijdjpipjbkbaaDoorW.PrintMore
set_option linter.unusedVariables false
set_option linter.unusedSimpArgs false
def GoodL : List S32 → Prop
  | [] => True
  | m :: r => GoodTok m.f0 m.f1 ∧ (isHash m.f0 m.f1 → ∃ m2 r2, r = m2 :: r2 ∧ m2.f0 = 1) ∧ GoodL r
theorem GoodL.mem : ∀ {l : List S32}, GoodL l → ∀ m ∈ l, GoodTok m.f0 m.f1
  | x :: l, h, m, hm => by
    rcases List.mem_cons.1 hm with rfl | hm
    · exact h.1
    · exact GoodL.mem h.2.2 m hm
theorem com_hash {s : ByteArray} {i : Nat} (h : isCom s i = true) : byteAt s i = 35 := by
  have h8 : cls (byteAt s i) = 8 := by unfold isCom at h; simp at h; exact h.1
  exact (cls8 _ (byteAt_bt s i).2).1 h8
theorem let35 : letB 35 = false := by decide
theorem let_cls {c : Nat} (h : c < 256) (hl : letB c = true) : cls c ≠ 7 := by rw [cls_letter c h hl]; decide
theorem scan_good (s : ByteArray) (hs : s.size ≤ 900) : ∀ (d i : Nat) (out : List S32), s.size ≤ i + d → i ≤ s.size → out.length ≤ i →
    ∃ v : List S32 × Int × Int × ByteArray, Ends (fun k => speclex_Scan.l0 k s out i) v ∧
      ((∃ L, v = (out ++ L, 0, 0, ⟨#[]⟩) ∧ GoodL L ∧ L.length + i ≤ s.size ∧ (i < s.size → letB (byteAt s i) = true → ∃ m r, L = m :: r ∧ m.f0 = 1)) ∨ (∃ e a, v = ([], e, a, ⟨#[]⟩) ∧ e ≠ 0)) := by
  intro d
  induction d using Nat.strongRecOn with
  | ind d ih =>
    intro i out h1 h2 h3
    by_cases hi : i < s.size
    case neg =>
      exact ⟨(out, 0, 0, ⟨#[]⟩), Ends.step (fun k => speclex_Scan.l0.eq_2 ..) (Ends.neg hi (Ends.const _)), .inl ⟨[], by simp, trivial, by simp; omega, fun q => absurd q hi⟩⟩
    obtain ⟨hb, hb2⟩ := byteAt_bt s i
    cases hcom : isCom s i with
    | true =>
      have h35 := com_hash hcom
      by_cases hn : nlAt s i < 0
      · exact ⟨(out, 0, 0, ⟨#[]⟩), Ends.step (fun k => speclex_Scan.l0.eq_2 ..) (Ends.pos hi (Ends.pos hcom (Ends.pos hn (Ends.const _)))), .inl ⟨[], by simp, trivial, by simp; omega, fun _ q => by rw [h35, let35] at q; cases q⟩⟩
      · obtain ⟨j, g1, g2, g3, g4, g5⟩ := nl_some (by omega) (show 0 ≤ nlAt s i by omega)
        have hij : i ≠ j := fun h => by rw [h] at h35; omega
        obtain ⟨v, f1, f20⟩ := ih (d - (j - i)) (by omega) j out (by omega) (by omega) (by omega)
        have F2 := Aside0.mk f20
        clear f20
        refine ⟨v, ?_, ?_⟩
        · refine Ends.step (fun k => speclex_Scan.l0.eq_2 ..) (Ends.pos hi (Ends.pos hcom (Ends.neg hn (Ends.pos (by omega) ?_))))
          rw [g1, show i + ((((j - i : Nat) : Int))).toNat = j by rw [Int.toNat_natCast]; omega]
          exact f1
        · rcases F2.out with ⟨L, e1, e2, e3, e4⟩ | q
          · have e5 : L.length + i ≤ s.size := by omega
            exact .inl ⟨L, e1, e2, e5, fun _ q => by rw [h35, let35] at q; cases q⟩
          · exact .inr q
    | false =>
      have hcn : ¬ isCom s i = true := by rw [hcom]; simp
      by_cases h7 : cls (byteAt s i) = 7
      · obtain ⟨v, f1, f20⟩ := ih (d - 1) (by omega) (i + 1) out (by omega) (by omega) (by omega)
        have F2 := Aside0.mk f20
        clear f20
        refine ⟨v, Ends.step (fun k => speclex_Scan.l0.eq_2 ..) (Ends.pos hi (Ends.neg hcn (Ends.pos h7 f1))), ?_⟩
        rcases F2.out with ⟨L, e1, e2, e3, e4⟩ | q
        · have e5 : L.length + i ≤ s.size := by omega
          exact .inl ⟨L, e1, e2, e5, fun _ q => absurd h7 (let_cls hb2 q)⟩
        · exact .inr q
      · obtain ⟨c, hc, hcb⟩ := byte_cons s i hi
        have hT : s.extract i s.size = ba (c :: s.data.toList.drop (i + 1)) := ba_ext (by rw [ext_list, ba_list, hc])
        have hl : (c :: s.data.toList.drop (i + 1)).length = s.size - i := by rw [← hc, List.length_drop, Array.length_toList]; rfl
        obtain ⟨k, t, n, e, p1, p2⟩ := tok_good c (s.data.toList.drop (i + 1)) (by omega) (by rw [hcb]; exact h7)
        rw [← hT, hcb] at p1
        rw [hl, hcb] at p2
        by_cases he : e = 0
        · obtain ⟨nn, rfl, q1, q2, q3, q4, q5⟩ := p2 he
          obtain ⟨v, f1, f20⟩ := ih (d - nn) (by omega) (i + nn) (out ++ [⟨k, t, (i : Int)⟩]) (by omega) (by omega) (by simp; omega)
          have F2 := Aside0.mk f20
          clear f20
          have w1 : ¬ out.length = 16384 := by omega
          have w2 : out.length < 4294967296 := by omega
          have w3 : (0 : Int) ≤ (nn : Int) := Int.natCast_nonneg nn
          have w4 : (nn : Int) ≤ 4294967296 := by omega
          refine ⟨v, ?_, ?_⟩
          · refine Ends.step (fun k => speclex_Scan.l0.eq_2 ..) (Ends.pos hi (Ends.neg hcn (Ends.neg h7 (Ends.neg w1 (Ends.pos w2 (Ends.bind p1 (Ends.pos he (Ends.pos ⟨w3, w4⟩ ?_))))))))
            exact f1
          · rcases F2.out with ⟨L, e1, e2, e3, e4⟩ | q
            · have e5 : L.length + 1 + i ≤ s.size := by omega
              refine .inl ⟨⟨k, t, (i : Int)⟩ :: L, by rw [e1]; simp, ⟨q3, fun hh => ?_, e2⟩, e5, fun _ q => ⟨_, _, rfl, q5 q⟩⟩
              obtain ⟨r1, rfl⟩ := q4 hh
              have h35 : byteAt s i = 35 := by rw [← hcb, r1]; rfl
              unfold isCom at hcom
              rw [(cls8 _ hb2).2 h35] at hcom
              simp at hcom
              exact e4 (by omega) hcom.2
            · exact .inr q
        · exact ⟨([], e, (i : Int), ⟨#[]⟩), Ends.step (fun k => speclex_Scan.l0.eq_2 ..) (Ends.pos hi (Ends.neg hcn (Ends.neg h7 (Ends.neg (by omega) (Ends.pos (by omega) (Ends.bind p1 (Ends.neg he (Ends.const _)))))))), .inr ⟨e, (i : Int), rfl, he⟩⟩
theorem glue_hash (m : S32) : glue m = true ↔ isHash m.f0 m.f1 := by
  unfold glue isHash
  rw [Bool.and_eq_true, decide_eq_true_eq, decide_eq_true_eq, Lib.toList_data]
  constructor
  · rintro ⟨h1, h2⟩; exact ⟨h1, ba_ext (by rw [h2, ba_list])⟩
  · rintro ⟨h1, h2⟩; exact ⟨h1, by rw [h2, ba_list]⟩
theorem byte_mid (pre : List UInt8) (c : UInt8) (l : List UInt8) : byteAt (ba (pre ++ c :: l)) pre.length = c.toNat := by
  have h : (pre ++ c :: l).drop pre.length = c :: l := List.drop_left' rfl
  have := (bt_ba h).2
  unfold byteAt
  rw [this]; rfl
theorem rescan : ∀ (L : List S32) (p : Option S32) (pre : List UInt8) (out : List S32), GoodL L → (pre ++ showFrom p L).length ≤ 65536 → out.length + L.length ≤ 10000 →
    ∃ M : List S32, Ends (fun k => speclex_Scan.l0 k (ba (pre ++ showFrom p L)) out pre.length) (out ++ M, 0, 0, ⟨#[]⟩) ∧ M.map (fun m => (m.f0, m.f1)) = L.map (fun m => (m.f0, m.f1)) := by
  intro L
  induction L with
  | nil =>
    intro p pre out _ _ _
    refine ⟨[], Ends.step (fun k => speclex_Scan.l0.eq_2 ..) (Ends.neg (by rw [ba_len]; simp [showFrom]) ((Ends.const _).val (by simp))), rfl⟩
  | cons m r ih =>
    intro p pre out hg hlen hout
    obtain ⟨g1, g2, g3⟩ := hg
    rw [List.length_cons] at hout
    obtain ⟨rest, hrest⟩ : ∃ rest, showFrom (some m) r = rest := ⟨_, rfl⟩
    have hsf : showFrom p (m :: r) = sepB p ++ (tokB m ++ rest) := by simp only [showFrom]; rw [hrest, List.append_assoc]
    rw [hsf] at hlen ⊢
    have core : ∀ pre2 : List UInt8, (pre2 ++ (tokB m ++ rest)).length ≤ 65536 → ∃ M : List S32, Ends (fun k => speclex_Scan.l0 k (ba (pre2 ++ (tokB m ++ rest))) out pre2.length) (out ++ M, 0, 0, ⟨#[]⟩) ∧ M.map (fun m => (m.f0, m.f1)) = (m :: r).map (fun m => (m.f0, m.f1)) := by
      intro pre2 hl2
      have hlr : rest.length ≤ 65536 := by rw [List.length_append, List.length_append] at hl2; omega
      have hstop : Stop rest ∨ isHash m.f0 m.f1 := by
        by_cases hh : isHash m.f0 m.f1
        · exact .inr hh
        · refine .inl fun c t hct => ?_
          cases r with
          | nil => rw [← hrest] at hct; simp [showFrom] at hct
          | cons m2 r2 =>
            have hgl : glue m = false := by cases hq : glue m with
              | false => rfl
              | true => exact absurd ((glue_hash m).1 hq) hh
            rw [← hrest] at hct
            simp only [showFrom, sepB, hgl] at hct
            simp at hct
            rw [← hct.1]; decide
      obtain ⟨c, l, b1, b2, b3, b4, b5⟩ := tok_back g1 rest hstop (by omega)
      rw [b1] at hl2 ⊢
      have hby : byteAt (ba (pre2 ++ (c :: l ++ rest))) pre2.length = c.toNat := byte_mid pre2 c (l ++ rest)
      have hex : (ba (pre2 ++ (c :: l ++ rest))).extract pre2.length (ba (pre2 ++ (c :: l ++ rest))).size = ba (c :: l ++ rest) := by rw [ba_drop, List.drop_left' rfl]
      have hsz : (ba (pre2 ++ (c :: l ++ rest))).size = pre2.length + (1 + l.length + rest.length) := by rw [ba_len]; simp only [List.length_append, List.length_cons]; omega
      have hcom : ¬ isCom (ba (pre2 ++ (c :: l ++ rest))) pre2.length = true := by
        intro hc
        have h35 := com_hash hc
        rw [hby] at h35
        have hh := b3 (UInt8.toNat_inj.1 h35)
        obtain ⟨m2, r2, hr2, hm2⟩ := g2 hh
        have hl0 : l = [] := by
          have : tokB m = [35] := by
            unfold tokB
            rw [if_neg (by rw [hh.1]; decide), if_neg (by rw [hh.1]; decide), hh.2, ba_list]
          rw [this] at b1
          injection b1 with _ e
          exact e.symm
        have hg2 : GoodTok m2.f0 m2.f1 := by rw [hr2] at g3; exact g3.1
        have hst2 : Stop [] ∨ isHash m2.f0 m2.f1 := .inl fun c t h => by cases h
        obtain ⟨c2, l2, d1, d2, d3, d4, d5⟩ := tok_back hg2 [] hst2 (by simp)
        have hgl := (glue_hash m).2 hh
        have hre : rest = c2 :: (l2 ++ showFrom (some m2) r2) := by
          rw [← hrest, hr2]
          simp only [showFrom, sepB, hgl, d1]
          simp
        have hb3 : byteAt (ba (pre2 ++ (c :: l ++ rest))) (pre2.length + 1) = c2.toNat := by
          have h : (pre2 ++ (c :: l ++ rest)).drop (pre2.length + 1) = c2 :: (l2 ++ showFrom (some m2) r2) := by
            rw [hl0, hre, ← List.drop_drop, List.drop_left' rfl]; rfl
          have := (bt_ba h).2
          unfold byteAt
          rw [this]; rfl
        have hl2' : letB c2.toNat = true := d4 hm2
        have hrl : rest.length = l2.length + (showFrom (some m2) r2).length + 1 := by rw [hre]; simp
        have hne : ¬ (pre2.length + 1 = (ba (pre2 ++ (c :: l ++ rest))).size) := by rw [hsz]; omega
        unfold isCom at hc
        rw [hb3, hl2', decide_eq_false hne] at hc
        simp at hc
      have hcl : (c :: l).length ≤ 65536 := by rw [List.length_append, List.length_append] at hl2; omega
      obtain ⟨M, i1, i2⟩ := ih (some m) (pre2 ++ (c :: l)) (out ++ [⟨m.f0, m.f1, (pre2.length : Int)⟩]) g3 (by rw [hrest, List.append_assoc]; exact hl2) (by simp; omega)
      rw [hrest, List.append_assoc pre2 (c :: l) rest] at i1
      refine ⟨⟨m.f0, m.f1, (pre2.length : Int)⟩ :: M, ?_, by rw [List.map_cons, List.map_cons, i2]⟩
      refine Ends.step (fun k => speclex_Scan.l0.eq_2 ..) (Ends.pos (by omega) (Ends.neg hcom (Ends.neg (by rw [hby]; exact b2) (Ends.neg (by omega) (Ends.pos (by omega) ?_)))))
      rw [hby, hex]
      refine Ends.bind b5 (Ends.pos rfl (Ends.pos ⟨show (0 : Int) ≤ ((c :: l).length : Int) by omega, show ((c :: l).length : Int) ≤ 4294967296 by omega⟩ ?_))
      dsimp only
      rw [Int.toNat_natCast]
      rw [List.length_append] at i1
      refine i1.val ?_
      simp
    rcases hsep : sepB p with _ | ⟨b, t⟩
    · (try rw [hsep] at hlen)
      rw [List.nil_append] at hlen ⊢
      exact core pre hlen
    · have hb : b = 32 ∧ t = [] := by
        unfold sepB at hsep
        split at hsep
        · cases hsep
        · split at hsep
          · cases hsep
          · cases hsep; exact ⟨rfl, rfl⟩
      obtain ⟨rfl, rfl⟩ := hb
      (try rw [hsep] at hlen)
      have e : pre ++ ([32] ++ (tokB m ++ rest)) = (pre ++ [32]) ++ (tokB m ++ rest) := by simp
      have hby : byteAt (ba (pre ++ ([32] ++ (tokB m ++ rest)))) pre.length = 32 := byte_mid pre 32 (tokB m ++ rest)
      obtain ⟨M, c1, c2⟩ := core (pre ++ [32]) (by rw [← e]; exact hlen)
      refine ⟨M, ?_, c2⟩
      refine Ends.step (fun k => speclex_Scan.l0.eq_2 ..) (Ends.pos (by rw [ba_len]; simp only [List.length_append, List.length_cons, List.length_nil]; omega) (Ends.neg (fun hc => by have := com_hash hc; rw [hby] at this; cases this) (Ends.pos (by rw [hby]; decide) ?_)))
      rw [← e] at c1
      rw [List.length_append] at c1
      exact c1
end Go.Proofs.YthijdjpipjbkbaaDoor.H
end
section
namespace Go.Proofs.YthijdjpipjbkbaaDoor.H
open Go.RowKit Go.Shelf Go.Proofs.YthijdjpipjbkbaaDoorW.PrintWords Go.Proofs.YthijdjpipjbkbaaDoorW.PrintLast Go.Proofs.YthijdjpipjbkbaaDoorW.PrintMore
open Go.Maps
set_option linter.unusedVariables false
set_option linter.unusedSimpArgs false
set_option maxRecDepth 100000 in
set_option maxHeartbeats 8000000 in
theorem speclex_Scan.calls (k : Nat) (a0 : ByteArray) (r1 : List S32) (r2 r3 : Int) (r4 : ByteArray) (w : World) (hgw : GW w) (h : speclex_Scan.f k a0 = some (r1, r2, r3, r4)) :
    Calls Tryd.prog 9 #[.string a0] w fun e w' => ∃ v0_ : Value, e = .returned (.tuple #[v0_, .agg #[.int .i64 r2, .int .i64 r3, .string r4]]) ∧ Kd.R k32 32 w' w.heap.size (fun _ => True) v0_ r1 ∧ Below w.heap.size w w' := by
  have HGW := Aside0.mk hgw
  clear hgw
  have hu26 := Tryd.underlying26
  have hu32 := Tryd.underlying32
  have hzv := (zero_of_info info256).1
  have HB := Aside0.mk (Below.refl w.heap.size w)
  unfold speclex_Scan.f at h
  by_cases hsz : a0.size ≤ 65536
  case neg =>
    rw [if_neg hsz] at h
    simp only [Option.some.injEq, Prod.mk.injEq] at h
    obtain ⟨rfl, rfl, rfl, rfl⟩ := h
    have c2b0 : decide (65536 < (a0.size : Int)) = true := decide_eq_true (by omega)
    have c2b1 : decide (65536 < a0.size) = true := decide_eq_true (by omega)
    go_enter Tryd.func9, Tryd.ntmps9
    go_wp2_with ((with_reducible refine gate_dst (N := 3) rfl ?_); refine box_event ?hg (N := 3) ?hd (cs := #[.int .i64 0, .int .i64 0, .string (⟨#[]⟩ : ByteArray)]) (t := 26) ?hr ?_; (case hd => rfl); (case hg => rfl); (case hr => first | (go_simp; done) | (go_simp; rfl)); intro gd hg w3 hbox hb; have BKD := Aside0.mk hbox; have GD := Aside0.mk (show w.heap.size ≤ gd by omega); have HB3 := Aside0.mk hb; clear hbox hb hg; have hc0 : w3.cell? ⟨gd, 0, none⟩ = some (.int .i64 0) := (blk_cell BKD.out 0).trans rfl; have hc1 : w3.cell? ⟨gd, 1, none⟩ = some (.int .i64 0) := (blk_cell BKD.out 1).trans rfl; have hc2 : w3.cell? ⟨gd, 2, none⟩ = some (.string (⟨#[]⟩ : ByteArray)) := (blk_cell BKD.out 2).trans rfl; have hf0 := blk_frozen BKD.out 0; have hf1 := blk_frozen BKD.out 1; have hf2 := blk_frozen BKD.out 2)
    go_step3
    go_wp2
    exact ret0 BKD.out HB3.out GD.out rfl rfl rfl
  rw [if_pos hsz] at h
  have c2b0 : decide (65536 < (a0.size : Int)) = false := decide_eq_false (by omega)
  have c2b1 : decide (65536 < a0.size) = false := decide_eq_false (by omega)
  have H' := Aside0.mk h
  clear h
  go_enter Tryd.func9, Tryd.ntmps9
  go_wp2_with ((with_reducible refine gate_dst (N := 3) rfl ?_); refine box_event ?hg (N := 3) ?hd (cs := #[.int .i64 0, .int .i64 0, .string (⟨#[]⟩ : ByteArray)]) (t := 26) ?hr ?_; (case hd => rfl); (case hg => rfl); (case hr => first | (go_simp; done) | (go_simp; rfl)); intro gd hg w3 hbox hb; have BKD := Aside0.mk hbox; have GD := Aside0.mk (show w.heap.size ≤ gd by omega); have HB3 := Aside0.mk hb; clear hbox hb hg)
  go_step3
  go_wp2_with (first
    | (go_at_call 14; refine (speclex_begins.calls _).mono ?_; rintro e w4 ⟨rfl, hb⟩; have BKD4 := Aside0.mk (blk_below BKD.out hb); have HB4 := Aside0.mk (below_step HB3.out hb); clear hb)
    | ((with_reducible refine gate_dst (N := 4) rfl ?_); refine box_event ?hg (N := 4) ?hd (cs := Array.replicate 256 (.int .u8 0)) (t := 38) ?hr ?_; (case hd => rfl); (case hg => rfl); (case hr => first | (go_simp; done) | (go_simp; rfl)); intro gt hg w5 hbox hb; have BKT := Aside0.mk hbox; have GT := Aside0.mk hg; have BKD5 := Aside0.mk (blk_below BKD4.out hb); have HB5 := Aside0.mk (below_step HB4.out hb); clear hbox hb hg)
    | ((with_reducible refine gate_store (t := 38) (p := 4) (v := .tmp 16) rfl ?_); refine store_event rfl rfl rfl (RowT.store (RowT.of_zero BKT.out) cls) ?_; rintro _ rfl))
  go_step3
  go_wp2
  go_loopg [5, 6] k (fun g v5 v6 wx => ∃ (out : List S32) (i : Nat), v6 = .int .i64 (i : Int) ∧ Aside0 (speclex_Scan.l0 g a0 out i = some (r1, r2, r3, r4)) ∧ Aside0 (SC w gd gt v5 out wx))
  case atStart => exact ⟨[], 0, rfl, H', ⟨⟨below_setRow HB5.out (by have := below_size HB4.out; have := GT.out; omega) _, ⟨0, 0, ⟨#[]⟩, (setRow_other _ _ _ _ (by have := GT.out; have := blk_lt BKD4.out; omega)).trans BKD5.out⟩, RowT.setRow (RowT.of_zero BKT.out) cls, Kd.R_nil _ _ _ _ _⟩⟩⟩
  case round =>
    clear H' c2b0 c2b1 hzv
    obtain ⟨out, i, rfl, HA0, HS⟩ := hrel
    cases gk with
    | zero => exact absurd HA0.out (by simp [speclex_Scan.l0])
    | succ g =>
      have H := HA0.out
      clear HA0
      simp only [speclex_Scan.l0] at H
      by_cases hlt : i < a0.size
      case neg =>
        rw [if_neg hlt] at H
        simp only [Option.some.injEq, Prod.mk.injEq] at H
        obtain ⟨rfl, rfl, rfl, rfl⟩ := H
        have c7 : decide ((i : Int) < (a0.size : Int)) = false := decide_eq_false (by omega)
        obtain ⟨x0, x1, x2, ⟨hc0, hc1, hc2⟩, hf0, hf1, hf2⟩ := HS.out.dcell
        go_wp2
        exact HS.out.ret GD.out rfl rfl rfl (.inl ⟨rfl, rfl⟩)
      rw [if_pos hlt] at H
      have hlti : (i : Int) < (a0.size : Int) := by omega
      obtain ⟨hc, hc256⟩ := byteAt_bt a0 i
      obtain ⟨hd, hd256⟩ := byteAt_bt a0 (i + 1)
      have hlv := letter_val _ hd256
      have hx : (a0[i]'hlt).toNat = byteAt a0 i := by unfold byteAt bt; rw [dif_pos (by simpa using hlt)]; rfl
      have hx2 : ∀ h : i + 1 < a0.size, (a0[i + 1]'h).toNat = byteAt a0 (i + 1) := fun h => by unfold byteAt bt; rw [dif_pos (by simpa using h)]; rfl
      obtain ⟨htc, htf⟩ := HS.out.t.cell (byteAt a0 i) hc256
      have hcm : isCom a0 i = (cls (byteAt a0 i) == 8 && (decide (i + 1 = a0.size) || !letB (byteAt a0 (i + 1)))) := rfl
      obtain ⟨d, hdd⟩ : ∃ d, byteAt a0 (i + 1) = d := ⟨_, rfl⟩
      rw [hdd] at hlv hx2 hcm
      obtain ⟨c, hcc⟩ : ∃ c, byteAt a0 i = c := ⟨_, rfl⟩
      rw [hcc] at hx htc hcm H hc256
      have hci : (c : Int) < 256 := by omega
      obtain ⟨q, hq⟩ : ∃ q, cls c = q := ⟨_, rfl⟩
      rw [hq] at htc hcm H
      clear hc hd hdd hcc hq hd256
      by_cases com : isCom a0 i = true
      · rw [if_pos com] at H
        rw [com] at hcm
        obtain ⟨h8, he⟩ : q = 8 ∧ (i + 1 = a0.size ∨ letB d = false) := by
          have := hcm.symm
          simpa using this
        subst h8
        clear com hcm
        obtain ⟨n, hn⟩ : ∃ n, nlAt a0 i = n := ⟨_, rfl⟩
        have hIB : strings_IndexByte.f (a0.extract i a0.size) 10 = some n := by rw [← hn]; rfl
        rw [hn] at H
        clear hn
        obtain ⟨x0, x1, x2, ⟨hc0, hc1, hc2⟩, hf0, hf1, hf2⟩ := HS.out.dcell
        by_cases hneg : n < 0
        · rw [if_pos hneg] at H
          simp only [Option.some.injEq, Prod.mk.injEq] at H
          obtain ⟨rfl, rfl, rfl, rfl⟩ := H
          have dn : decide (n < 0) = true := decide_eq_true hneg
          by_cases he1 : i + 1 = a0.size
          · have b1 : (((i : Int) + 1) == (a0.size : Int)) = true := by simp; omega
            clear he
            go_wp2_with (go_at_call 16; refine (strings_IndexByte.calls _ _ n _ hIB).mono ?_; rintro e w' ⟨rfl, q2_, rfl⟩)
            exact (HS.out.below (by repeat (first | exact Below.refl _ _ | apply pw_below_drewN))).ret GD.out rfl rfl rfl (.inl ⟨rfl, rfl⟩)
          · have hl := he.resolve_left he1
            rw [hl] at hlv
            have b1 : (((i : Int) + 1) == (a0.size : Int)) = false := by simp; omega
            clear he
            go_wp2_with (first | (go_at_call 15; refine (speclex_letter.calls _ _ _ hlv).mono ?_; rintro e w' ⟨rfl, q_, rfl⟩) | (go_at_call 16; refine (strings_IndexByte.calls _ _ n _ hIB).mono ?_; rintro e w' ⟨rfl, q2_, rfl⟩))
            exact (HS.out.below (by repeat (first | exact Below.refl _ _ | apply pw_below_drewN))).ret GD.out rfl rfl rfl (.inl ⟨rfl, rfl⟩)
        · rw [if_neg hneg] at H
          have dn : decide (n < 0) = false := decide_eq_false hneg
          by_cases hn2 : n ≤ 4294967296
          case neg => rw [if_neg hn2] at H; cases H
          rw [if_pos hn2] at H
          have HH := Aside0.mk H
          clear H
          by_cases he1 : i + 1 = a0.size
          · have b1 : (((i : Int) + 1) == (a0.size : Int)) = true := by simp; omega
            clear he
            go_wp2_with (go_at_call 16; refine (strings_IndexByte.calls _ _ n _ hIB).mono ?_; rintro e w' ⟨rfl, q2_, rfl⟩)
            go_roundg g
            case measure => omega
            case rel => exact ⟨out, i + n.toNat, by congr 1; push_cast; omega, HH, ⟨HS.out.below (by repeat (first | exact Below.refl _ _ | apply pw_below_drewN))⟩⟩
          · have hl := he.resolve_left he1
            rw [hl] at hlv
            have b1 : (((i : Int) + 1) == (a0.size : Int)) = false := by simp; omega
            clear he
            go_wp2_with (first | (go_at_call 15; refine (speclex_letter.calls _ _ _ hlv).mono ?_; rintro e w' ⟨rfl, q_, rfl⟩) | (go_at_call 16; refine (strings_IndexByte.calls _ _ n _ hIB).mono ?_; rintro e w' ⟨rfl, q2_, rfl⟩))
            go_roundg g
            case measure => omega
            case rel => exact ⟨out, i + n.toNat, by congr 1; push_cast; omega, HH, ⟨HS.out.below (by repeat (first | exact Below.refl _ _ | apply pw_below_drewN))⟩⟩
      · rw [if_neg com] at H
        by_cases h7 : q = 7
        · subst h7
          rw [if_pos rfl] at H
          have HH := Aside0.mk H
          clear H com hcm
          go_wp2
          go_roundg g
          case measure => omega
          case rel => exact ⟨out, i + 1, by congr 1, HH, HS⟩
        rw [if_neg h7] at H
        have b7 : ((q : Int) == 7) = false := by simp; omega
        have alt : (((q : Int) == 8) = false) ∨ (((q : Int) == 8) = true ∧ (((i : Int) + 1) == (a0.size : Int)) = false ∧ letB d = true ∧ i + 1 < a0.size) := by
          have hf : (q == 8 && (decide (i + 1 = a0.size) || !letB d)) = false := by rw [← hcm]; simpa using com
          by_cases h8 : q = 8
          · subst h8
            have hne : ¬ i + 1 = a0.size := by intro h; simp [h] at hf
            refine .inr ⟨rfl, ?_, ?_, by omega⟩
            · simp; omega
            · cases hl : letB d with
              | true => rfl
              | false => rw [hl] at hf; simp at hf
          · exact .inl (by simp; omega)
        clear com hcm
        obtain ⟨Ao, co, hv5⟩ := Kd.R_slice HS.out.R
        subst hv5
        by_cases h16 : out.length = 16384
        · rw [if_pos h16] at H
          simp only [Option.some.injEq, Prod.mk.injEq] at H
          obtain ⟨rfl, rfl, rfl, rfl⟩ := H
          have d16 : ((out.length : Int) == 16384) = true := by simp; omega
          obtain ⟨x0, x1, x2, ⟨hc0, hc1, hc2⟩, hf0, hf1, hf2⟩ := HS.out.dcell
          rcases alt with hb8 | ⟨hb8, he, hl, hlt2⟩
          · go_wp2
            exact HS.out.ret GD.out rfl rfl rfl (.inr ⟨rfl, rfl⟩)
          · rw [hl] at hlv
            go_wp2_with (go_at_call 15; refine (speclex_letter.calls _ _ _ hlv).mono ?_; rintro e w' ⟨rfl, q_, rfl⟩)
            exact (HS.out.below (by repeat (first | exact Below.refl _ _ | apply pw_below_drewN))).ret GD.out rfl rfl rfl (.inr ⟨rfl, rfl⟩)
        rw [if_neg h16] at H
        have d16 : ((out.length : Int) == 16384) = false := by simp; omega
        by_cases hln : out.length < 4294967296
        case neg => rw [if_neg hln] at H; cases H
        rw [if_pos hln] at H
        have HLN := Aside0.mk hln
        clear hln
        replace H := Option.bind_eq_some_iff.mp H
        obtain ⟨⟨t1, t2, t3, t4, t5⟩, A, H⟩ := H
        have HA := Aside0.mk A
        clear A
        dsimp only at H
        by_cases h5 : t5 = 0
        · rw [if_pos h5] at H
          have b5 : (t5 != 0) = false := bne_eq_false_iff_eq.mpr h5
          have b50 : (t5 == 0) = true := beq_iff_eq.mpr h5
          clear h5
          by_cases h4 : 0 ≤ t4 ∧ t4 ≤ 4294967296
          case neg => rw [if_neg h4] at H; cases H
          rw [if_pos h4] at H
          obtain ⟨h40, h41⟩ := h4
          have HH := Aside0.mk H
          clear H
          rcases alt with hb8 | ⟨hb8, he, hl, hlt2⟩
          · go_wp2_with (first | (go_at_call 17; refine (speclex_one.calls g _ _ t1 t2 t3 t4 t5 _ (HGW.out.below (by repeat (first | exact HS.out.B | apply pw_below_drewN))) HA.out).mono ?_; rintro e w9 ⟨rfl, hb⟩; have HS9 := Aside0.mk (HS.out.below (below_step (by repeat (first | exact Below.refl _ _ | apply pw_below_drewN)) hb)); clear hb) | ((with_reducible refine gate_dst (N := 9) rfl ?_); refine box_event ?hg (N := 9) ?hd (cs := #[.int .i64 0, .string (⟨#[]⟩ : ByteArray), .int .i64 0]) (t := 32) ?hr ?_; (case hd => rfl); (case hg => rfl); (case hr => first | (go_simp; done) | (go_simp; rfl)); intro gb hg w10 hbox hb; have BK := Aside0.mk hbox; have SB0 := Aside0.mk (SB.new HS9.out hg hb); clear hbox hb hg; have z0 : w10.cell? ⟨gb, 0, none⟩ = some (.int .i64 0) := (blk_cell BK.out 0).trans rfl; have z1 : w10.cell? ⟨gb, 1, none⟩ = some (.string (⟨#[]⟩ : ByteArray)) := (blk_cell BK.out 1).trans rfl; have z2 : w10.cell? ⟨gb, 2, none⟩ = some (.int .i64 0) := (blk_cell BK.out 2).trans rfl; have y0 := blk_frozen BK.out 0; have y1 := blk_frozen BK.out 1; have y2 := blk_frozen BK.out 2; obtain ⟨x0, x1, x2, ⟨hc0, hc1, hc2⟩, hf0, hf1, hf2⟩ := SB0.out.s.dcell; have nd1 := SB0.out.nd; have nd2 := SB0.out.nd.symm; have z2b : ((((w10.setCell ⟨gb, 0, none⟩ (.int .i64 t1)).setCell ⟨gb, 1, none⟩ (.string t2)).setCell ⟨gb, 2, none⟩ (.int .i64 t3)).setCell ⟨gb, 2, none⟩ (.int .i64 (i : Int))).cell? ⟨gb, 2, none⟩ = some (.int .i64 (i : Int)) := (blk_cell (cs := #[.int .i64 t1, .string t2, .int .i64 (i : Int)]) (blk_put (cs := #[.int .i64 t1, .string t2, .int .i64 t3]) (blk_put (cs := #[.int .i64 t1, .string t2, .int .i64 0]) (blk_put (cs := #[.int .i64 t1, .string (⟨#[]⟩ : ByteArray), .int .i64 0]) (blk_put (cs := #[.int .i64 0, .string (⟨#[]⟩ : ByteArray), .int .i64 0]) BK.out 0 _ rfl) 1 _ rfl) 2 _ rfl) 2 _ rfl) 2).trans rfl) | ((with_reducible refine gate_builtin (b := .append) (xs := #[.tmp 77, .tmp 79]) rfl ?_); at_builtin; refine Kd.R_append k32 (w0 := w) w.heap.size rfl (.tmp 77) (.tmp 79) 23 32 (.agg #[(.int .i64 0), (.string ⟨#[]⟩), (.int .i64 0)]) 32 rfl Tryd.underlying23 info32 rfl (by decide) (by omega) (.slice Ao out.length co) out (⟨t1, t2, (i : Int)⟩ : S32) [.int .i64 t1, .string t2, .int .i64 (i : Int)] (fun k_ => k_ ≠ gb) (fun _ => False) rfl (by first | (go_simp; done) | (go_simp; rfl)) ?aP (fun _ hk => hk.elim) ?aF ?aO ?aB ?aS ?aL ?_; (case aP => exact k32_mkM _ _ _ (⟨t1, t2, (i : Int)⟩ : S32)); (case aB => exact (by (repeat (first | apply below_alloc | apply pw_below_drewN)); exact ((((SB0.out.set 0 _).set 1 _).set 2 _).set 2 _).s.B)); (case aF => exact (fun k_ hk => Kd.freshB (g := gb) (o := .cells #[.int .i64 t1, .string t2, .int .i64 (i : Int)] 32 (0, 0)) (by (with_reducible repeat (first | refine blk_drewN ?_ _ | refine blk_drew ?_ | refine blk_alloc ?_ _)); exact blk_put (cs := #[.int .i64 t1, .string t2, .int .i64 t3]) (blk_put (cs := #[.int .i64 t1, .string t2, .int .i64 0]) (blk_put (cs := #[.int .i64 t1, .string (⟨#[]⟩ : ByteArray), .int .i64 0]) (blk_put (cs := #[.int .i64 0, .string (⟨#[]⟩ : ByteArray), .int .i64 0]) BK.out 0 _ rfl) 1 _ rfl) 2 _ rfl) 2 _ rfl) k_ hk)); (case aO => exact (by (with_reducible repeat (first | apply Kd.R_alloc | apply Kd.R_drewN | apply Kd.R_drew)); exact ((((SB0.out.set 0 _).set 1 _).set 2 _).set 2 _).r)); (case aS => exact (below_size (by (repeat (first | apply below_alloc | apply pw_below_drewN)); exact ((((SB0.out.set 0 _).set 1 _).set 2 _).set 2 _).s.B))); (case aL => have := HLN.out; omega); intro v' w12 ho hb hg hat; have HSN := Aside0.mk (SC.grown (SC.below ((((SB0.out.set 0 _).set 1 _).set 2 _).set 2 _).s (by repeat (first | exact Below.refl _ _ | apply below_alloc | apply pw_below_drewN))) hg hb (Kd.R_mono ho (fun _ _ => trivial))); clear ho hb hg hat))
            go_roundg g
            case measure => omega
            case rel => exact ⟨_, i + t4.toNat, by congr 1; push_cast; omega, HH, HSN⟩
          · rw [hl] at hlv
            go_wp2_with (first | (go_at_call 15; refine (speclex_letter.calls _ _ _ hlv).mono ?_; rintro e w' ⟨rfl, q_, rfl⟩) | (go_at_call 17; refine (speclex_one.calls g _ _ t1 t2 t3 t4 t5 _ (HGW.out.below (by repeat (first | exact HS.out.B | apply pw_below_drewN))) HA.out).mono ?_; rintro e w9 ⟨rfl, hb⟩; have HS9 := Aside0.mk (HS.out.below (below_step (by repeat (first | exact Below.refl _ _ | apply pw_below_drewN)) hb)); clear hb) | ((with_reducible refine gate_dst (N := 9) rfl ?_); refine box_event ?hg (N := 9) ?hd (cs := #[.int .i64 0, .string (⟨#[]⟩ : ByteArray), .int .i64 0]) (t := 32) ?hr ?_; (case hd => rfl); (case hg => rfl); (case hr => first | (go_simp; done) | (go_simp; rfl)); intro gb hg w10 hbox hb; have BK := Aside0.mk hbox; have SB0 := Aside0.mk (SB.new HS9.out hg hb); clear hbox hb hg; have z0 : w10.cell? ⟨gb, 0, none⟩ = some (.int .i64 0) := (blk_cell BK.out 0).trans rfl; have z1 : w10.cell? ⟨gb, 1, none⟩ = some (.string (⟨#[]⟩ : ByteArray)) := (blk_cell BK.out 1).trans rfl; have z2 : w10.cell? ⟨gb, 2, none⟩ = some (.int .i64 0) := (blk_cell BK.out 2).trans rfl; have y0 := blk_frozen BK.out 0; have y1 := blk_frozen BK.out 1; have y2 := blk_frozen BK.out 2; obtain ⟨x0, x1, x2, ⟨hc0, hc1, hc2⟩, hf0, hf1, hf2⟩ := SB0.out.s.dcell; have nd1 := SB0.out.nd; have nd2 := SB0.out.nd.symm; have z2b : ((((w10.setCell ⟨gb, 0, none⟩ (.int .i64 t1)).setCell ⟨gb, 1, none⟩ (.string t2)).setCell ⟨gb, 2, none⟩ (.int .i64 t3)).setCell ⟨gb, 2, none⟩ (.int .i64 (i : Int))).cell? ⟨gb, 2, none⟩ = some (.int .i64 (i : Int)) := (blk_cell (cs := #[.int .i64 t1, .string t2, .int .i64 (i : Int)]) (blk_put (cs := #[.int .i64 t1, .string t2, .int .i64 t3]) (blk_put (cs := #[.int .i64 t1, .string t2, .int .i64 0]) (blk_put (cs := #[.int .i64 t1, .string (⟨#[]⟩ : ByteArray), .int .i64 0]) (blk_put (cs := #[.int .i64 0, .string (⟨#[]⟩ : ByteArray), .int .i64 0]) BK.out 0 _ rfl) 1 _ rfl) 2 _ rfl) 2 _ rfl) 2).trans rfl) | ((with_reducible refine gate_builtin (b := .append) (xs := #[.tmp 77, .tmp 79]) rfl ?_); at_builtin; refine Kd.R_append k32 (w0 := w) w.heap.size rfl (.tmp 77) (.tmp 79) 23 32 (.agg #[(.int .i64 0), (.string ⟨#[]⟩), (.int .i64 0)]) 32 rfl Tryd.underlying23 info32 rfl (by decide) (by omega) (.slice Ao out.length co) out (⟨t1, t2, (i : Int)⟩ : S32) [.int .i64 t1, .string t2, .int .i64 (i : Int)] (fun k_ => k_ ≠ gb) (fun _ => False) rfl (by first | (go_simp; done) | (go_simp; rfl)) ?aP (fun _ hk => hk.elim) ?aF ?aO ?aB ?aS ?aL ?_; (case aP => exact k32_mkM _ _ _ (⟨t1, t2, (i : Int)⟩ : S32)); (case aB => exact (by (repeat (first | apply below_alloc | apply pw_below_drewN)); exact ((((SB0.out.set 0 _).set 1 _).set 2 _).set 2 _).s.B)); (case aF => exact (fun k_ hk => Kd.freshB (g := gb) (o := .cells #[.int .i64 t1, .string t2, .int .i64 (i : Int)] 32 (0, 0)) (by (with_reducible repeat (first | refine blk_drewN ?_ _ | refine blk_drew ?_ | refine blk_alloc ?_ _)); exact blk_put (cs := #[.int .i64 t1, .string t2, .int .i64 t3]) (blk_put (cs := #[.int .i64 t1, .string t2, .int .i64 0]) (blk_put (cs := #[.int .i64 t1, .string (⟨#[]⟩ : ByteArray), .int .i64 0]) (blk_put (cs := #[.int .i64 0, .string (⟨#[]⟩ : ByteArray), .int .i64 0]) BK.out 0 _ rfl) 1 _ rfl) 2 _ rfl) 2 _ rfl) k_ hk)); (case aO => exact (by (with_reducible repeat (first | apply Kd.R_alloc | apply Kd.R_drewN | apply Kd.R_drew)); exact ((((SB0.out.set 0 _).set 1 _).set 2 _).set 2 _).r)); (case aS => exact (below_size (by (repeat (first | apply below_alloc | apply pw_below_drewN)); exact ((((SB0.out.set 0 _).set 1 _).set 2 _).set 2 _).s.B))); (case aL => have := HLN.out; omega); intro v' w12 ho hb hg hat; have HSN := Aside0.mk (SC.grown (SC.below ((((SB0.out.set 0 _).set 1 _).set 2 _).set 2 _).s (by repeat (first | exact Below.refl _ _ | apply below_alloc | apply pw_below_drewN))) hg hb (Kd.R_mono ho (fun _ _ => trivial))); clear ho hb hg hat))
            go_roundg g
            case measure => omega
            case rel => exact ⟨_, i + t4.toNat, by congr 1; push_cast; omega, HH, HSN⟩
        · rw [if_neg h5] at H
          simp only [Option.some.injEq, Prod.mk.injEq] at H
          obtain ⟨rfl, rfl, rfl, rfl⟩ := H
          have b5 : (t5 != 0) = true := bne_iff_ne.mpr h5
          have b50 : (t5 == 0) = false := beq_eq_false_iff_ne.mpr h5
          rcases alt with hb8 | ⟨hb8, he, hl, hlt2⟩
          · go_wp2_with (first | (go_at_call 17; refine (speclex_one.calls g _ _ t1 t2 t3 t4 t5 _ (HGW.out.below (by repeat (first | exact HS.out.B | apply pw_below_drewN))) HA.out).mono ?_; rintro e w9 ⟨rfl, hb⟩; have HS9 := Aside0.mk (HS.out.below (below_step (by repeat (first | exact Below.refl _ _ | apply pw_below_drewN)) hb)); clear hb) | ((with_reducible refine gate_dst (N := 9) rfl ?_); refine box_event ?hg (N := 9) ?hd (cs := #[.int .i64 0, .string (⟨#[]⟩ : ByteArray), .int .i64 0]) (t := 32) ?hr ?_; (case hd => rfl); (case hg => rfl); (case hr => first | (go_simp; done) | (go_simp; rfl)); intro gb hg w10 hbox hb; have BK := Aside0.mk hbox; have SB0 := Aside0.mk (SB.new HS9.out hg hb); clear hbox hb hg; have z0 : w10.cell? ⟨gb, 0, none⟩ = some (.int .i64 0) := (blk_cell BK.out 0).trans rfl; have z1 : w10.cell? ⟨gb, 1, none⟩ = some (.string (⟨#[]⟩ : ByteArray)) := (blk_cell BK.out 1).trans rfl; have z2 : w10.cell? ⟨gb, 2, none⟩ = some (.int .i64 0) := (blk_cell BK.out 2).trans rfl; have y0 := blk_frozen BK.out 0; have y1 := blk_frozen BK.out 1; have y2 := blk_frozen BK.out 2; obtain ⟨x0, x1, x2, ⟨hc0, hc1, hc2⟩, hf0, hf1, hf2⟩ := SB0.out.s.dcell; have nd1 := SB0.out.nd; have nd2 := SB0.out.nd.symm))
            exact (((SB0.out.set 0 _).set 1 _).set 2 _).s.ret GD.out rfl rfl rfl (.inr ⟨rfl, rfl⟩)
          · rw [hl] at hlv
            go_wp2_with (first | (go_at_call 15; refine (speclex_letter.calls _ _ _ hlv).mono ?_; rintro e w' ⟨rfl, q_, rfl⟩) | (go_at_call 17; refine (speclex_one.calls g _ _ t1 t2 t3 t4 t5 _ (HGW.out.below (by repeat (first | exact HS.out.B | apply pw_below_drewN))) HA.out).mono ?_; rintro e w9 ⟨rfl, hb⟩; have HS9 := Aside0.mk (HS.out.below (below_step (by repeat (first | exact Below.refl _ _ | apply pw_below_drewN)) hb)); clear hb) | ((with_reducible refine gate_dst (N := 9) rfl ?_); refine box_event ?hg (N := 9) ?hd (cs := #[.int .i64 0, .string (⟨#[]⟩ : ByteArray), .int .i64 0]) (t := 32) ?hr ?_; (case hd => rfl); (case hg => rfl); (case hr => first | (go_simp; done) | (go_simp; rfl)); intro gb hg w10 hbox hb; have BK := Aside0.mk hbox; have SB0 := Aside0.mk (SB.new HS9.out hg hb); clear hbox hb hg; have z0 : w10.cell? ⟨gb, 0, none⟩ = some (.int .i64 0) := (blk_cell BK.out 0).trans rfl; have z1 : w10.cell? ⟨gb, 1, none⟩ = some (.string (⟨#[]⟩ : ByteArray)) := (blk_cell BK.out 1).trans rfl; have z2 : w10.cell? ⟨gb, 2, none⟩ = some (.int .i64 0) := (blk_cell BK.out 2).trans rfl; have y0 := blk_frozen BK.out 0; have y1 := blk_frozen BK.out 1; have y2 := blk_frozen BK.out 2; obtain ⟨x0, x1, x2, ⟨hc0, hc1, hc2⟩, hf0, hf1, hf2⟩ := SB0.out.s.dcell; have nd1 := SB0.out.nd; have nd2 := SB0.out.nd.symm))
            exact (((SB0.out.set 0 _).set 1 _).set 2 _).s.ret GD.out rfl rfl rfl (.inr ⟨rfl, rfl⟩)
end Go.Proofs.YthijdjpipjbkbaaDoor.H
end
section
namespace Go.Proofs.YthijdjpipjbkbaaDoor.H
open Go.RowKit Go.Proofs.YthijdjpipjbkbaaDoorW.PrintWords Go.Proofs.YthijdjpipjbkbaaDoorW.PrintLast Go.Proofs.YthijdjpipjbkbaaDoorW.PrintMore
attribute [local go_sem] max2_int min2_int max_two min_two max_three min_three max_four min_four
set_option linter.unusedVariables false
set_option linter.unusedSimpArgs false
attribute [local go_sem high] eqA26 eqA32
def arboristlaw11_knows.f (k : Nat)  : Option (Bool) := (speclex_Scan.f k (⟨#[101, 32, 61, 32, 101, 32, 34, 43, 34, 32, 101, 32, 35, 97, 100, 100, 32, 124, 32, 78, 59, 32, 35, 32, 97, 108, 108]⟩ : ByteArray)).bind fun bt120 => ((speclex_Scan.f k (⟨#[47, 97, 92, 47, 98, 47]⟩ : ByteArray)).bind fun bt127 => ((speclex_Scan.f k (⟨#[48, 49]⟩ : ByteArray)).bind fun bt134 => ((speclex_Scan.f k (⟨#[47, 97]⟩ : ByteArray)).bind fun bt141 => (if (bt120.2.1 == 0 && (bt120.2.2.1 == 0 && (bt120.2.2.2.toList == ([] : List UInt8)))) = true then (if (bt127.2.1 == 0 && (bt127.2.2.1 == 0 && (bt127.2.2.2.toList == ([] : List UInt8)))) = true then (if (bt134.2.1 == 14 && (bt134.2.2.1 == 0 && (bt134.2.2.2.toList == ([] : List UInt8)))) = true then (if (bt141.2.1 == 13 && (bt141.2.2.1 == 0 && (bt141.2.2.2.toList == ([] : List UInt8)))) = true then (if (bt120.1.length : Int) = 10 then (if 3 < (bt120.1.length : Int) then (if (((rd_T32 bt120.1 3).f0) == 2 && ((((rd_T32 bt120.1 3).f1).toList) == ([43] : List UInt8) && (((rd_T32 bt120.1 3).f2) == 6))) = true then (if 5 < (bt120.1.length : Int) then (if ((rd_T32 bt120.1 5).f1).toList = ([35] : List UInt8) then (if (bt127.1.length : Int) = 1 then (if 0 < (bt127.1.length : Int) then (if (((rd_T32 bt127.1 0).f0) == 3 && ((((rd_T32 bt127.1 0).f1).toList) == ([97, 92, 47, 98] : List UInt8) && (((rd_T32 bt127.1 0).f2) == 0))) = true then ((speclex_Show.f bt127.1).bind fun t151 => (some (t151.toList == ([47, 97, 92, 47, 98, 47] : List UInt8)))) else (none)) else (none)) else (none)) else (none)) else (none)) else (none)) else (none)) else (none)) else (none)) else (none)) else (none)) else (none)))))
theorem arboristlaw11_knows.mono : ∀ k, LeO (arboristlaw11_knows.f k ) (arboristlaw11_knows.f (k + 1) ) := by
  intro  k
  unfold arboristlaw11_knows.f
  repeat' first
      | (with_reducible exact speclex_Scan.mono _ _)
      | (with_reducible exact LeO.refl _)
      | (with_reducible exact LeO.none _)
      | (with_reducible refine LeO.ite ?_ ?_)
      | (with_reducible refine LeO.bind ?_ (fun _ => ?_))
      | exact speclex_Scan.mono _ _
      | exact LeO.none _
      | refine LeO.ite ?_ ?_
      | refine LeO.bind ?_ (fun _ => ?_)
theorem scan_up {k m : Nat} (h : k ≤ m) {s : ByteArray} {v : List (S32) × Int × Int × ByteArray} (hk : speclex_Scan.f k s = some v) : speclex_Scan.f m s = some v := by
  induction m with
  | zero => obtain rfl : k = 0 := by omega
            exact hk
  | succ m ih =>
    rcases Nat.lt_or_ge k (m + 1) with q | q
    · exact speclex_Scan.mono s m v (ih (by omega))
    · obtain rfl : k = m + 1 := by omega
      exact hk
theorem diag_of (s : ByteArray) (n : Int) (hv : (speclex_Scan.f 60 s).map (fun t => (t.2.1, t.2.2.1, t.2.2.2.data.toList)) = some (n, 0, [])) {k : Nat} {a : List (S32)} {b c : Int} {d : ByteArray} (h : speclex_Scan.f k s = some (a, b, c, d)) : b = n ∧ c = 0 ∧ d = ⟨#[]⟩ := by
  have e : speclex_Scan.f 60 s = some (a, b, c, d) := by
    obtain ⟨C, hC, _⟩ := Option.map_eq_some_iff.1 hv
    rcases Nat.le_total k 60 with q | q
    · exact scan_up q h
    · have := scan_up q hC
      rw [h] at this
      rw [this]; exact hC
  rw [e] at hv
  simp only [Option.map_some, Option.some.injEq, Prod.mk.injEq] at hv
  exact ⟨hv.1, hv.2.1, ba_ext hv.2.2⟩
set_option maxHeartbeats 8000000 in
set_option maxRecDepth 100000 in
theorem arboristlaw11_knows.calls (k : Nat)  (r : Bool) (w : World) (hgw : GW w) (h : arboristlaw11_knows.f k  = some r) :
    Calls Tryd.prog 8 #[] w fun e w' => e = .returned (.bool r) ∧ Below w.heap.size w w' := by
  have HGW := Aside0.mk hgw
  clear hgw
  have hu26 := Tryd.underlying26
  have hu32 := Tryd.underlying32
  have HB := Aside0.mk (Below.refl w.heap.size w)
  have H : ((speclex_Scan.f k (⟨#[101, 32, 61, 32, 101, 32, 34, 43, 34, 32, 101, 32, 35, 97, 100, 100, 32, 124, 32, 78, 59, 32, 35, 32, 97, 108, 108]⟩ : ByteArray)).bind fun bt120 => ((speclex_Scan.f k (⟨#[47, 97, 92, 47, 98, 47]⟩ : ByteArray)).bind fun bt127 => ((speclex_Scan.f k (⟨#[48, 49]⟩ : ByteArray)).bind fun bt134 => ((speclex_Scan.f k (⟨#[47, 97]⟩ : ByteArray)).bind fun bt141 => (if (bt120.2.1 == 0 && (bt120.2.2.1 == 0 && (bt120.2.2.2.toList == ([] : List UInt8)))) = true then (if (bt127.2.1 == 0 && (bt127.2.2.1 == 0 && (bt127.2.2.2.toList == ([] : List UInt8)))) = true then (if (bt134.2.1 == 14 && (bt134.2.2.1 == 0 && (bt134.2.2.2.toList == ([] : List UInt8)))) = true then (if (bt141.2.1 == 13 && (bt141.2.2.1 == 0 && (bt141.2.2.2.toList == ([] : List UInt8)))) = true then (if (bt120.1.length : Int) = 10 then (if 3 < (bt120.1.length : Int) then (if (((rd_T32 bt120.1 3).f0) == 2 && ((((rd_T32 bt120.1 3).f1).toList) == ([43] : List UInt8) && (((rd_T32 bt120.1 3).f2) == 6))) = true then (if 5 < (bt120.1.length : Int) then (if ((rd_T32 bt120.1 5).f1).toList = ([35] : List UInt8) then (if (bt127.1.length : Int) = 1 then (if 0 < (bt127.1.length : Int) then (if (((rd_T32 bt127.1 0).f0) == 3 && ((((rd_T32 bt127.1 0).f1).toList) == ([97, 92, 47, 98] : List UInt8) && (((rd_T32 bt127.1 0).f2) == 0))) = true then ((speclex_Show.f bt127.1).bind fun t151 => (some (t151.toList == ([47, 97, 92, 47, 98, 47] : List UInt8)))) else (none)) else (none)) else (none)) else (none)) else (none)) else (none)) else (none)) else (none)) else (none)) else (none)) else (none)) else (none)))))) = some r := h
  clear h
  replace H := Option.bind_eq_some_iff.mp H
  obtain ⟨⟨t120, t123, t124, t125⟩, A10, H⟩ := H
  replace H : ((speclex_Scan.f k (⟨#[47, 97, 92, 47, 98, 47]⟩ : ByteArray)).bind fun bt127 => ((speclex_Scan.f k (⟨#[48, 49]⟩ : ByteArray)).bind fun bt134 => ((speclex_Scan.f k (⟨#[47, 97]⟩ : ByteArray)).bind fun bt141 => (if (t123 == 0 && (t124 == 0 && (t125.toList == ([] : List UInt8)))) = true then (if (bt127.2.1 == 0 && (bt127.2.2.1 == 0 && (bt127.2.2.2.toList == ([] : List UInt8)))) = true then (if (bt134.2.1 == 14 && (bt134.2.2.1 == 0 && (bt134.2.2.2.toList == ([] : List UInt8)))) = true then (if (bt141.2.1 == 13 && (bt141.2.2.1 == 0 && (bt141.2.2.2.toList == ([] : List UInt8)))) = true then (if (t120.length : Int) = 10 then (if 3 < (t120.length : Int) then (if (((rd_T32 t120 3).f0) == 2 && ((((rd_T32 t120 3).f1).toList) == ([43] : List UInt8) && (((rd_T32 t120 3).f2) == 6))) = true then (if 5 < (t120.length : Int) then (if ((rd_T32 t120 5).f1).toList = ([35] : List UInt8) then (if (bt127.1.length : Int) = 1 then (if 0 < (bt127.1.length : Int) then (if (((rd_T32 bt127.1 0).f0) == 3 && ((((rd_T32 bt127.1 0).f1).toList) == ([97, 92, 47, 98] : List UInt8) && (((rd_T32 bt127.1 0).f2) == 0))) = true then ((speclex_Show.f bt127.1).bind fun t151 => (some (t151.toList == ([47, 97, 92, 47, 98, 47] : List UInt8)))) else (none)) else (none)) else (none)) else (none)) else (none)) else (none)) else (none)) else (none)) else (none)) else (none)) else (none)) else (none))))) = some r := H
  have A1 := Aside0.mk A10
  clear A10
  replace H := Option.bind_eq_some_iff.mp H
  obtain ⟨⟨t127, t130, t131, t132⟩, A20, H⟩ := H
  replace H : ((speclex_Scan.f k (⟨#[48, 49]⟩ : ByteArray)).bind fun bt134 => ((speclex_Scan.f k (⟨#[47, 97]⟩ : ByteArray)).bind fun bt141 => (if (t123 == 0 && (t124 == 0 && (t125.toList == ([] : List UInt8)))) = true then (if (t130 == 0 && (t131 == 0 && (t132.toList == ([] : List UInt8)))) = true then (if (bt134.2.1 == 14 && (bt134.2.2.1 == 0 && (bt134.2.2.2.toList == ([] : List UInt8)))) = true then (if (bt141.2.1 == 13 && (bt141.2.2.1 == 0 && (bt141.2.2.2.toList == ([] : List UInt8)))) = true then (if (t120.length : Int) = 10 then (if 3 < (t120.length : Int) then (if (((rd_T32 t120 3).f0) == 2 && ((((rd_T32 t120 3).f1).toList) == ([43] : List UInt8) && (((rd_T32 t120 3).f2) == 6))) = true then (if 5 < (t120.length : Int) then (if ((rd_T32 t120 5).f1).toList = ([35] : List UInt8) then (if (t127.length : Int) = 1 then (if 0 < (t127.length : Int) then (if (((rd_T32 t127 0).f0) == 3 && ((((rd_T32 t127 0).f1).toList) == ([97, 92, 47, 98] : List UInt8) && (((rd_T32 t127 0).f2) == 0))) = true then ((speclex_Show.f t127).bind fun t151 => (some (t151.toList == ([47, 97, 92, 47, 98, 47] : List UInt8)))) else (none)) else (none)) else (none)) else (none)) else (none)) else (none)) else (none)) else (none)) else (none)) else (none)) else (none)) else (none)))) = some r := H
  have A2 := Aside0.mk A20
  clear A20
  replace H := Option.bind_eq_some_iff.mp H
  obtain ⟨⟨t134, t137, t138, t139⟩, A30, H⟩ := H
  replace H : ((speclex_Scan.f k (⟨#[47, 97]⟩ : ByteArray)).bind fun bt141 => (if (t123 == 0 && (t124 == 0 && (t125.toList == ([] : List UInt8)))) = true then (if (t130 == 0 && (t131 == 0 && (t132.toList == ([] : List UInt8)))) = true then (if (t137 == 14 && (t138 == 0 && (t139.toList == ([] : List UInt8)))) = true then (if (bt141.2.1 == 13 && (bt141.2.2.1 == 0 && (bt141.2.2.2.toList == ([] : List UInt8)))) = true then (if (t120.length : Int) = 10 then (if 3 < (t120.length : Int) then (if (((rd_T32 t120 3).f0) == 2 && ((((rd_T32 t120 3).f1).toList) == ([43] : List UInt8) && (((rd_T32 t120 3).f2) == 6))) = true then (if 5 < (t120.length : Int) then (if ((rd_T32 t120 5).f1).toList = ([35] : List UInt8) then (if (t127.length : Int) = 1 then (if 0 < (t127.length : Int) then (if (((rd_T32 t127 0).f0) == 3 && ((((rd_T32 t127 0).f1).toList) == ([97, 92, 47, 98] : List UInt8) && (((rd_T32 t127 0).f2) == 0))) = true then ((speclex_Show.f t127).bind fun t151 => (some (t151.toList == ([47, 97, 92, 47, 98, 47] : List UInt8)))) else (none)) else (none)) else (none)) else (none)) else (none)) else (none)) else (none)) else (none)) else (none)) else (none)) else (none)) else (none))) = some r := H
  have A3 := Aside0.mk A30
  clear A30
  replace H := Option.bind_eq_some_iff.mp H
  obtain ⟨⟨t141, t144, t145, t146⟩, A40, H⟩ := H
  replace H : (if (t123 == 0 && (t124 == 0 && (t125.toList == ([] : List UInt8)))) = true then (if (t130 == 0 && (t131 == 0 && (t132.toList == ([] : List UInt8)))) = true then (if (t137 == 14 && (t138 == 0 && (t139.toList == ([] : List UInt8)))) = true then (if (t144 == 13 && (t145 == 0 && (t146.toList == ([] : List UInt8)))) = true then (if (t120.length : Int) = 10 then (if 3 < (t120.length : Int) then (if (((rd_T32 t120 3).f0) == 2 && ((((rd_T32 t120 3).f1).toList) == ([43] : List UInt8) && (((rd_T32 t120 3).f2) == 6))) = true then (if 5 < (t120.length : Int) then (if ((rd_T32 t120 5).f1).toList = ([35] : List UInt8) then (if (t127.length : Int) = 1 then (if 0 < (t127.length : Int) then (if (((rd_T32 t127 0).f0) == 3 && ((((rd_T32 t127 0).f1).toList) == ([97, 92, 47, 98] : List UInt8) && (((rd_T32 t127 0).f2) == 0))) = true then ((speclex_Show.f t127).bind fun t151 => (some (t151.toList == ([47, 97, 92, 47, 98, 47] : List UInt8)))) else (none)) else (none)) else (none)) else (none)) else (none)) else (none)) else (none)) else (none)) else (none)) else (none)) else (none)) else (none)) = some r := H
  have A4 := Aside0.mk A40
  clear A40
  obtain ⟨rfl, rfl, rfl⟩ := diag_of (⟨#[101, 32, 61, 32, 101, 32, 34, 43, 34, 32, 101, 32, 35, 97, 100, 100, 32, 124, 32, 78, 59, 32, 35, 32, 97, 108, 108]⟩ : ByteArray) 0 (by kernel_rfl) A1.out
  obtain ⟨rfl, rfl, rfl⟩ := diag_of (⟨#[47, 97, 92, 47, 98, 47]⟩ : ByteArray) 0 (by kernel_rfl) A2.out
  obtain ⟨rfl, rfl, rfl⟩ := diag_of (⟨#[48, 49]⟩ : ByteArray) 14 (by kernel_rfl) A3.out
  obtain ⟨rfl, rfl, rfl⟩ := diag_of (⟨#[47, 97]⟩ : ByteArray) 13 (by kernel_rfl) A4.out
  by_cases c5 : ((0 : Int) == 0 && ((0 : Int) == 0 && ((⟨#[]⟩ : ByteArray).toList == ([] : List UInt8)))) = true
  · rw [if_pos c5] at H
    have c5b0 : ((0 : Int) == 0 && ((0 : Int) == 0 && ((⟨#[]⟩ : ByteArray).toList == ([] : List UInt8)))) = true := c5
    clear c5
    by_cases c6 : ((0 : Int) == 0 && ((0 : Int) == 0 && ((⟨#[]⟩ : ByteArray).toList == ([] : List UInt8)))) = true
    · rw [if_pos c6] at H
      have c6b0 : ((0 : Int) == 0 && ((0 : Int) == 0 && ((⟨#[]⟩ : ByteArray).toList == ([] : List UInt8)))) = true := c6
      clear c6
      by_cases c7 : ((14 : Int) == 14 && ((0 : Int) == 0 && ((⟨#[]⟩ : ByteArray).toList == ([] : List UInt8)))) = true
      · rw [if_pos c7] at H
        have c7b0 : ((14 : Int) == 14 && ((0 : Int) == 0 && ((⟨#[]⟩ : ByteArray).toList == ([] : List UInt8)))) = true := c7
        clear c7
        by_cases c8 : ((13 : Int) == 13 && ((0 : Int) == 0 && ((⟨#[]⟩ : ByteArray).toList == ([] : List UInt8)))) = true
        · rw [if_pos c8] at H
          have c8b0 : ((13 : Int) == 13 && ((0 : Int) == 0 && ((⟨#[]⟩ : ByteArray).toList == ([] : List UInt8)))) = true := c8
          clear c8
          by_cases c9 : (t120.length : Int) = 10
          · rw [if_pos c9] at H
            have c9b0 : ((t120.length : Int) == 10) = true := beq_iff_eq.mpr c9
            have c9b1 : ((t120.length : Int) != 10) = false := bne_eq_false_iff_eq.mpr c9
            clear c9
            by_cases c10 : 3 < (t120.length : Int)
            · rw [if_pos c10] at H
              have c10b0 : decide (3 < (t120.length : Int)) = true := decide_eq_true c10
              have c10b1 : decide (3 < t120.length) = true := decide_eq_true (by omega)
              clear c10
              by_cases c11 : (((rd_T32 t120 3).f0) == 2 && ((((rd_T32 t120 3).f1).toList) == ([43] : List UInt8) && (((rd_T32 t120 3).f2) == 6))) = true
              · rw [if_pos c11] at H
                have c11b0 : (((rd_T32 t120 3).f0) == 2 && ((((rd_T32 t120 3).f1).toList) == ([43] : List UInt8) && (((rd_T32 t120 3).f2) == 6))) = true := c11
                (try (have c11b1 : decide (((rd_T32 t120 3).f0) = 2 && ((((rd_T32 t120 3).f1).toList) == ([43] : List UInt8) && (((rd_T32 t120 3).f2) == 6))) = true := by simpa using c11))
                (try (have c11b2 : (((rd_T32 t120 3).f0) == 2 && ((((rd_T32 t120 3).f1).toList) == ([43] : List UInt8) && (((rd_T32 t120 3).f2) == 6))) = true := by simpa using c11))
                clear c11
                by_cases c12 : 5 < (t120.length : Int)
                · rw [if_pos c12] at H
                  have c12b0 : decide (5 < (t120.length : Int)) = true := decide_eq_true c12
                  have c12b1 : decide (5 < t120.length) = true := decide_eq_true (by omega)
                  clear c12
                  by_cases c13 : ((rd_T32 t120 5).f1).toList = ([35] : List UInt8)
                  · rw [if_pos c13] at H
                    have c13b0 : (((rd_T32 t120 5).f1).toList == ([35] : List UInt8)) = true := beq_iff_eq.mpr c13
                    have c13b1 : (((rd_T32 t120 5).f1).toList != ([35] : List UInt8)) = false := bne_eq_false_iff_eq.mpr c13
                    clear c13
                    by_cases c14 : (t127.length : Int) = 1
                    · rw [if_pos c14] at H
                      have c14b0 : ((t127.length : Int) == 1) = true := beq_iff_eq.mpr c14
                      have c14b1 : ((t127.length : Int) != 1) = false := bne_eq_false_iff_eq.mpr c14
                      clear c14
                      by_cases c15 : 0 < (t127.length : Int)
                      · rw [if_pos c15] at H
                        have c15b0 : decide (0 < (t127.length : Int)) = true := decide_eq_true c15
                        have c15b1 : decide (0 < t127.length) = true := decide_eq_true (by omega)
                        clear c15
                        by_cases c16 : (((rd_T32 t127 0).f0) == 3 && ((((rd_T32 t127 0).f1).toList) == ([97, 92, 47, 98] : List UInt8) && (((rd_T32 t127 0).f2) == 0))) = true
                        · rw [if_pos c16] at H
                          have c16b0 : (((rd_T32 t127 0).f0) == 3 && ((((rd_T32 t127 0).f1).toList) == ([97, 92, 47, 98] : List UInt8) && (((rd_T32 t127 0).f2) == 0))) = true := c16
                          (try (have c16b1 : decide (((rd_T32 t127 0).f0) = 3 && ((((rd_T32 t127 0).f1).toList) == ([97, 92, 47, 98] : List UInt8) && (((rd_T32 t127 0).f2) == 0))) = true := by simpa using c16))
                          (try (have c16b2 : (((rd_T32 t127 0).f0) == 3 && ((((rd_T32 t127 0).f1).toList) == ([97, 92, 47, 98] : List UInt8) && (((rd_T32 t127 0).f2) == 0))) = true := by simpa using c16))
                          clear c16
                          replace H := Option.bind_eq_some_iff.mp H
                          obtain ⟨t151, A170, H⟩ := H
                          replace H : (some (t151.toList == ([47, 97, 92, 47, 98, 47] : List UInt8))) = some r := H
                          have A17 := Aside0.mk A170
                          clear A170
                          obtain rfl := Option.some.inj H
                          go_enter Tryd.func8, Tryd.ntmps8
                          go_wp2_with (first | ((with_reducible refine gate_callee (f := 9) rfl ?_); refine goesL_ (some 10) rfl rfl Tryd.func9 (by kernel_rfl) rfl #[.string (⟨#[101, 32, 61, 32, 101, 32, 34, 43, 34, 32, 101, 32, 35, 97, 100, 100, 32, 124, 32, 78, 59, 32, 35, 32, 97, 108, 108]⟩ : ByteArray)] rfl (by (try simp only [List.map_toArray, List.map_cons, List.map_nil]); first | done | rfl | (simp only [List.length_drop, List.length_take]; rfl)) ?_; (with_reducible refine (speclex_Scan.calls k (⟨#[101, 32, 61, 32, 101, 32, 34, 43, 34, 32, 101, 32, 35, 97, 100, 100, 32, 124, 32, 78, 59, 32, 35, 32, 97, 108, 108]⟩ : ByteArray) t120 (0 : Int) (0 : Int) (⟨#[]⟩ : ByteArray) _ ?side1 A1.out).mono ?_); (case side1 => exact GW.below HGW.out (by repeat (first | (with_reducible first | exact HB.out | apply below_alloc | apply pw_below_drewN | apply below_drew1) | exact HB.out))); rintro e w18 ⟨v121, rfl, ho0, hb⟩; refine ⟨_, rfl, ?_⟩; have n0_ := Aside0.mk (Kd.R_lower ho0 (below_size (by repeat (first | (with_reducible first | exact HB.out | apply below_alloc | apply pw_below_drewN | apply below_drew1) | exact HB.out)))); have n1_ := Aside0.mk (below_step (by repeat (first | (with_reducible first | exact HB.out | apply below_alloc | apply pw_below_drewN | apply below_drew1) | exact HB.out)) hb); clear HB; have HO122 := n0_; have HB := n1_; clear n0_ n1_; (try clear hb); (try clear hb2); (try clear hk); (try clear hi); (try clear ho0)) | ((with_reducible refine gate_dst (N := 2) rfl ?_); (try (refine gate_guard (by rfl) ?_; dsimp only)); refine box_event ?hg (N := 2) ?hd (cs := #[.int .i64 0, .int .i64 0, .string (⟨#[]⟩ : ByteArray)]) (t := 26) ?hr ?_; (case hd => rfl); (case hg => rfl); (case hr => first | (go_simp; done) | (go_simp; rfl)); intro gb126 hg w19 hbox hb; have n0_ := Aside0.mk (Kd.R_below (by (with_reducible repeat (first | apply Kd.R_alloc | apply Kd.R_drewN | apply Kd.R_drew)); exact HO122.out) hb); have n1_ := Aside0.mk (below_step (by repeat (first | (with_reducible first | exact HB.out | apply below_alloc | apply pw_below_drewN | apply below_drew1) | exact HB.out)) hb); have n2_ := Aside0.mk (hbox); have n3_ := Aside0.mk ((by rw [hg]; exact (below_size (by repeat (first | (with_reducible first | exact HB.out | apply below_alloc | apply pw_below_drewN | apply below_drew1) | exact HB.out))) : w.heap.size ≤ gb126)); have n4_ := Aside0.mk ((by rw [hg]; exact (below_size (by repeat (first | (with_reducible first | exact HB.out | apply below_alloc | apply pw_below_drewN | apply below_drew1) | exact HB.out))) : w.heap.size ≤ gb126)); clear HO122; clear HB; have HO122 := n0_; have HB := n1_; have BK126 := n2_; have GW126 := n3_; have GE126 := n4_; clear n0_ n1_ n2_ n3_ n4_; clear hb hbox hg; have hcz20_0 : w19.cell? ⟨gb126, 0, none⟩ = some (.int .i64 0) := (blk_cell BK126.out 0).trans rfl; have hcz20_1 : w19.cell? ⟨gb126, 1, none⟩ = some (.int .i64 0) := (blk_cell BK126.out 1).trans rfl; have hcz20_2 : w19.cell? ⟨gb126, 2, none⟩ = some (.string (⟨#[]⟩ : ByteArray)) := (blk_cell BK126.out 2).trans rfl; have hfz20_0 := blk_frozen BK126.out 0; have hfz20_1 := blk_frozen BK126.out 1; have hfz20_2 := blk_frozen BK126.out 2) | ((with_reducible refine gate_callee (f := 9) rfl ?_); refine goesL_ (some 14) rfl rfl Tryd.func9 (by kernel_rfl) rfl #[.string (⟨#[47, 97, 92, 47, 98, 47]⟩ : ByteArray)] rfl (by (try simp only [List.map_toArray, List.map_cons, List.map_nil]); first | done | rfl | (simp only [List.length_drop, List.length_take]; rfl)) ?_; (with_reducible refine (speclex_Scan.calls k (⟨#[47, 97, 92, 47, 98, 47]⟩ : ByteArray) t127 (0 : Int) (0 : Int) (⟨#[]⟩ : ByteArray) _ ?side1 A2.out).mono ?_); (case side1 => exact GW.below HGW.out (by repeat (first | (with_reducible first | exact HB.out | apply below_alloc | apply pw_below_drewN | apply below_drew1 | refine below_set ?_ GE126.out) | exact HB.out))); rintro e w21 ⟨v128, rfl, ho0, hb⟩; refine ⟨_, rfl, ?_⟩; have n0_ := Aside0.mk (Kd.R_elder' (by (with_reducible repeat (first | apply Kd.R_alloc | apply Kd.R_drewN | apply Kd.R_drew)); exact (Kd.R_mono (Kd.R_far (p := ⟨gb126, 2, none⟩) (Kd.R_far (p := ⟨gb126, 1, none⟩) (Kd.R_far (p := ⟨gb126, 0, none⟩) (Kd.R_types HO122.out BK126.out (by decide)) (fun _ hk => hk.2) (.int .i64 (0 : Int))) (fun _ hk => hk.2) (.int .i64 (0 : Int))) (fun _ hk => hk.2) (.string (⟨#[]⟩ : ByteArray))) (fun _ h_ => h_.1))) (Kd.R_base ho0) hb); have n1_ := Aside0.mk (Kd.R_lower (Kd.R_new' ho0 (Kd.R_lt (by (with_reducible repeat (first | apply Kd.R_alloc | apply Kd.R_drewN | apply Kd.R_drew)); exact (Kd.R_mono (Kd.R_far (p := ⟨gb126, 2, none⟩) (Kd.R_far (p := ⟨gb126, 1, none⟩) (Kd.R_far (p := ⟨gb126, 0, none⟩) (Kd.R_types HO122.out BK126.out (by decide)) (fun _ hk => hk.2) (.int .i64 (0 : Int))) (fun _ hk => hk.2) (.int .i64 (0 : Int))) (fun _ hk => hk.2) (.string (⟨#[]⟩ : ByteArray))) (fun _ h_ => h_.1))))) (below_size (by repeat (first | (with_reducible first | exact HB.out | apply below_alloc | apply pw_below_drewN | apply below_drew1 | refine below_set ?_ GE126.out) | exact HB.out)))); have n2_ := Aside0.mk (blk_below (g := gb126) (o := .cells #[.int .i64 (0 : Int), .int .i64 (0 : Int), .string (⟨#[]⟩ : ByteArray)] 26 (0, 0)) (by (with_reducible repeat (first | refine blk_drewN ?_ _ | refine blk_drew ?_ | refine blk_alloc ?_ _)); refine blk_put (cs := #[.int .i64 (0 : Int), .int .i64 (0 : Int), .string (⟨#[]⟩ : ByteArray)]) ?_ 2 _ rfl; (with_reducible repeat (first | refine blk_drewN ?_ _ | refine blk_drew ?_ | refine blk_alloc ?_ _)); refine blk_put (cs := #[.int .i64 (0 : Int), .int .i64 0, .string (⟨#[]⟩ : ByteArray)]) ?_ 1 _ rfl; (with_reducible repeat (first | refine blk_drewN ?_ _ | refine blk_drew ?_ | refine blk_alloc ?_ _)); refine blk_put (cs := #[.int .i64 0, .int .i64 0, .string (⟨#[]⟩ : ByteArray)]) ?_ 0 _ rfl; (with_reducible repeat (first | refine blk_drewN ?_ _ | refine blk_drew ?_ | refine blk_alloc ?_ _)); exact BK126.out) hb); have n3_ := Aside0.mk (below_step (by repeat (first | (with_reducible first | exact HB.out | apply below_alloc | apply pw_below_drewN | apply below_drew1 | refine below_set ?_ GE126.out) | exact HB.out)) hb); clear HO122; clear BK126; clear HB; have HO122 := n0_; have HO129 := n1_; have BK126 := n2_; have HB := n3_; clear n0_ n1_ n2_ n3_; (try clear hb); (try clear hb2); (try clear hk); (try clear hi); (try clear ho0)) | ((with_reducible refine gate_dst (N := 4) rfl ?_); (try (refine gate_guard (by rfl) ?_; dsimp only)); refine box_event ?hg (N := 4) ?hd (cs := #[.int .i64 0, .int .i64 0, .string (⟨#[]⟩ : ByteArray)]) (t := 26) ?hr ?_; (case hd => rfl); (case hg => rfl); (case hr => first | (go_simp; done) | (go_simp; rfl)); intro gb133 hg w22 hbox hb; have n0_ := Aside0.mk (Kd.R_below (by (with_reducible repeat (first | apply Kd.R_alloc | apply Kd.R_drewN | apply Kd.R_drew)); exact HO122.out) hb); have n1_ := Aside0.mk (Kd.R_below (by (with_reducible repeat (first | apply Kd.R_alloc | apply Kd.R_drewN | apply Kd.R_drew)); exact HO129.out) hb); have n2_ := Aside0.mk (blk_below (g := gb126) (o := .cells #[.int .i64 (0 : Int), .int .i64 (0 : Int), .string (⟨#[]⟩ : ByteArray)] 26 (0, 0)) (by (with_reducible repeat (first | refine blk_drewN ?_ _ | refine blk_drew ?_ | refine blk_alloc ?_ _)); exact BK126.out) hb); have n3_ := Aside0.mk (below_step (by repeat (first | (with_reducible first | exact HB.out | apply below_alloc | apply pw_below_drewN | apply below_drew1 | refine below_set ?_ GE126.out) | exact HB.out)) hb); have n4_ := Aside0.mk (hbox); have n5_ := Aside0.mk ((by rw [hg]; exact (below_size (by repeat (first | (with_reducible first | exact HB.out | apply below_alloc | apply pw_below_drewN | apply below_drew1 | refine below_set ?_ GE126.out) | exact HB.out))) : w.heap.size ≤ gb133)); have n6_ := Aside0.mk ((by rw [hg]; exact (below_size (by repeat (first | (with_reducible first | exact HB.out | apply below_alloc | apply pw_below_drewN | apply below_drew1 | refine below_set ?_ GE126.out) | exact HB.out))) : w.heap.size ≤ gb133)); have n7_ := Aside0.mk ((by rw [hg]; exact Nat.ne_of_lt (blk_lt (g := gb126) (o := .cells #[.int .i64 (0 : Int), .int .i64 (0 : Int), .string (⟨#[]⟩ : ByteArray)] 26 (0, 0)) (by (with_reducible repeat (first | refine blk_drewN ?_ _ | refine blk_drew ?_ | refine blk_alloc ?_ _)); exact BK126.out)) : gb126 ≠ gb133)); have n8_ := Aside0.mk ((by rw [hg]; exact Nat.ne_of_gt (blk_lt (g := gb126) (o := .cells #[.int .i64 (0 : Int), .int .i64 (0 : Int), .string (⟨#[]⟩ : ByteArray)] 26 (0, 0)) (by (with_reducible repeat (first | refine blk_drewN ?_ _ | refine blk_drew ?_ | refine blk_alloc ?_ _)); exact BK126.out)) : gb133 ≠ gb126)); clear HO122; clear HO129; clear BK126; clear HB; have HO122 := n0_; have HO129 := n1_; have BK126 := n2_; have HB := n3_; have BK133 := n4_; have GW133 := n5_; have GE133 := n6_; have NB126_133 := n7_; have NB133_126 := n8_; clear n0_ n1_ n2_ n3_ n4_ n5_ n6_ n7_ n8_; clear hb hbox hg; have hnb23 := NB133_126.out; have hnc23 := NB126_133.out; have hcz24_0 : w22.cell? ⟨gb133, 0, none⟩ = some (.int .i64 0) := (blk_cell BK133.out 0).trans rfl; have hcz24_1 : w22.cell? ⟨gb133, 1, none⟩ = some (.int .i64 0) := (blk_cell BK133.out 1).trans rfl; have hcz24_2 : w22.cell? ⟨gb133, 2, none⟩ = some (.string (⟨#[]⟩ : ByteArray)) := (blk_cell BK133.out 2).trans rfl; have hfz24_0 := blk_frozen BK133.out 0; have hfz24_1 := blk_frozen BK133.out 1; have hfz24_2 := blk_frozen BK133.out 2) | ((with_reducible refine gate_callee (f := 9) rfl ?_); refine goesL_ (some 18) rfl rfl Tryd.func9 (by kernel_rfl) rfl #[.string (⟨#[48, 49]⟩ : ByteArray)] rfl (by (try simp only [List.map_toArray, List.map_cons, List.map_nil]); first | done | rfl | (simp only [List.length_drop, List.length_take]; rfl)) ?_; (with_reducible refine (speclex_Scan.calls k (⟨#[48, 49]⟩ : ByteArray) t134 (14 : Int) (0 : Int) (⟨#[]⟩ : ByteArray) _ ?side1 A3.out).mono ?_); (case side1 => exact GW.below HGW.out (by repeat (first | (with_reducible first | exact HB.out | apply below_alloc | apply pw_below_drewN | apply below_drew1 | refine below_set ?_ GE126.out | refine below_set ?_ GE133.out) | exact HB.out))); rintro e w25 ⟨v135, rfl, ho0, hb⟩; refine ⟨_, rfl, ?_⟩; have n0_ := Aside0.mk (Kd.R_elder' (by (with_reducible repeat (first | apply Kd.R_alloc | apply Kd.R_drewN | apply Kd.R_drew)); exact (Kd.R_mono (Kd.R_far (p := ⟨gb133, 2, none⟩) (Kd.R_far (p := ⟨gb133, 1, none⟩) (Kd.R_far (p := ⟨gb133, 0, none⟩) (Kd.R_types HO122.out BK133.out (by decide)) (fun _ hk => hk.2) (.int .i64 (0 : Int))) (fun _ hk => hk.2) (.int .i64 (0 : Int))) (fun _ hk => hk.2) (.string (⟨#[]⟩ : ByteArray))) (fun _ h_ => h_.1))) (Kd.R_base ho0) hb); have n1_ := Aside0.mk (Kd.R_elder' (by (with_reducible repeat (first | apply Kd.R_alloc | apply Kd.R_drewN | apply Kd.R_drew)); exact (Kd.R_mono (Kd.R_far (p := ⟨gb133, 2, none⟩) (Kd.R_far (p := ⟨gb133, 1, none⟩) (Kd.R_far (p := ⟨gb133, 0, none⟩) (Kd.R_types HO129.out BK133.out (by decide)) (fun _ hk => hk.2) (.int .i64 (0 : Int))) (fun _ hk => hk.2) (.int .i64 (0 : Int))) (fun _ hk => hk.2) (.string (⟨#[]⟩ : ByteArray))) (fun _ h_ => h_.1))) (Kd.R_base ho0) hb); have n2_ := Aside0.mk (Kd.R_lower (Kd.R_new' (Kd.R_new' ho0 (Kd.R_lt (by (with_reducible repeat (first | apply Kd.R_alloc | apply Kd.R_drewN | apply Kd.R_drew)); exact (Kd.R_mono (Kd.R_far (p := ⟨gb133, 2, none⟩) (Kd.R_far (p := ⟨gb133, 1, none⟩) (Kd.R_far (p := ⟨gb133, 0, none⟩) (Kd.R_types HO122.out BK133.out (by decide)) (fun _ hk => hk.2) (.int .i64 (0 : Int))) (fun _ hk => hk.2) (.int .i64 (0 : Int))) (fun _ hk => hk.2) (.string (⟨#[]⟩ : ByteArray))) (fun _ h_ => h_.1))))) (Kd.R_lt (by (with_reducible repeat (first | apply Kd.R_alloc | apply Kd.R_drewN | apply Kd.R_drew)); exact (Kd.R_mono (Kd.R_far (p := ⟨gb133, 2, none⟩) (Kd.R_far (p := ⟨gb133, 1, none⟩) (Kd.R_far (p := ⟨gb133, 0, none⟩) (Kd.R_types HO129.out BK133.out (by decide)) (fun _ hk => hk.2) (.int .i64 (0 : Int))) (fun _ hk => hk.2) (.int .i64 (0 : Int))) (fun _ hk => hk.2) (.string (⟨#[]⟩ : ByteArray))) (fun _ h_ => h_.1))))) (below_size (by repeat (first | (with_reducible first | exact HB.out | apply below_alloc | apply pw_below_drewN | apply below_drew1 | refine below_set ?_ GE126.out | refine below_set ?_ GE133.out) | exact HB.out)))); have n3_ := Aside0.mk (blk_below (g := gb126) (o := .cells #[.int .i64 (0 : Int), .int .i64 (0 : Int), .string (⟨#[]⟩ : ByteArray)] 26 (0, 0)) (by (with_reducible repeat (first | refine blk_drewN ?_ _ | refine blk_drew ?_ | refine blk_alloc ?_ _)); refine blk_far ?_ NB126_133.out _; (with_reducible repeat (first | refine blk_drewN ?_ _ | refine blk_drew ?_ | refine blk_alloc ?_ _)); refine blk_far ?_ NB126_133.out _; (with_reducible repeat (first | refine blk_drewN ?_ _ | refine blk_drew ?_ | refine blk_alloc ?_ _)); refine blk_far ?_ NB126_133.out _; (with_reducible repeat (first | refine blk_drewN ?_ _ | refine blk_drew ?_ | refine blk_alloc ?_ _)); exact BK126.out) hb); have n4_ := Aside0.mk (blk_below (g := gb133) (o := .cells #[.int .i64 (0 : Int), .int .i64 (0 : Int), .string (⟨#[]⟩ : ByteArray)] 26 (0, 0)) (by (with_reducible repeat (first | refine blk_drewN ?_ _ | refine blk_drew ?_ | refine blk_alloc ?_ _)); refine blk_put (cs := #[.int .i64 (0 : Int), .int .i64 (0 : Int), .string (⟨#[]⟩ : ByteArray)]) ?_ 2 _ rfl; (with_reducible repeat (first | refine blk_drewN ?_ _ | refine blk_drew ?_ | refine blk_alloc ?_ _)); refine blk_put (cs := #[.int .i64 (0 : Int), .int .i64 0, .string (⟨#[]⟩ : ByteArray)]) ?_ 1 _ rfl; (with_reducible repeat (first | refine blk_drewN ?_ _ | refine blk_drew ?_ | refine blk_alloc ?_ _)); refine blk_put (cs := #[.int .i64 0, .int .i64 0, .string (⟨#[]⟩ : ByteArray)]) ?_ 0 _ rfl; (with_reducible repeat (first | refine blk_drewN ?_ _ | refine blk_drew ?_ | refine blk_alloc ?_ _)); exact BK133.out) hb); have n5_ := Aside0.mk (below_step (by repeat (first | (with_reducible first | exact HB.out | apply below_alloc | apply pw_below_drewN | apply below_drew1 | refine below_set ?_ GE126.out | refine below_set ?_ GE133.out) | exact HB.out)) hb); clear HO122; clear HO129; clear BK126; clear BK133; clear HB; have HO122 := n0_; have HO129 := n1_; have HO136 := n2_; have BK126 := n3_; have BK133 := n4_; have HB := n5_; clear n0_ n1_ n2_ n3_ n4_ n5_; (try clear hb); (try clear hb2); (try clear hk); (try clear hi); (try clear ho0)) | ((with_reducible refine gate_dst (N := 6) rfl ?_); (try (refine gate_guard (by rfl) ?_; dsimp only)); refine box_event ?hg (N := 6) ?hd (cs := #[.int .i64 0, .int .i64 0, .string (⟨#[]⟩ : ByteArray)]) (t := 26) ?hr ?_; (case hd => rfl); (case hg => rfl); (case hr => first | (go_simp; done) | (go_simp; rfl)); intro gb140 hg w26 hbox hb; have n0_ := Aside0.mk (Kd.R_below (by (with_reducible repeat (first | apply Kd.R_alloc | apply Kd.R_drewN | apply Kd.R_drew)); exact HO122.out) hb); have n1_ := Aside0.mk (Kd.R_below (by (with_reducible repeat (first | apply Kd.R_alloc | apply Kd.R_drewN | apply Kd.R_drew)); exact HO129.out) hb); have n2_ := Aside0.mk (Kd.R_below (by (with_reducible repeat (first | apply Kd.R_alloc | apply Kd.R_drewN | apply Kd.R_drew)); exact HO136.out) hb); have n3_ := Aside0.mk (blk_below (g := gb126) (o := .cells #[.int .i64 (0 : Int), .int .i64 (0 : Int), .string (⟨#[]⟩ : ByteArray)] 26 (0, 0)) (by (with_reducible repeat (first | refine blk_drewN ?_ _ | refine blk_drew ?_ | refine blk_alloc ?_ _)); exact BK126.out) hb); have n4_ := Aside0.mk (blk_below (g := gb133) (o := .cells #[.int .i64 (0 : Int), .int .i64 (0 : Int), .string (⟨#[]⟩ : ByteArray)] 26 (0, 0)) (by (with_reducible repeat (first | refine blk_drewN ?_ _ | refine blk_drew ?_ | refine blk_alloc ?_ _)); exact BK133.out) hb); have n5_ := Aside0.mk (below_step (by repeat (first | (with_reducible first | exact HB.out | apply below_alloc | apply pw_below_drewN | apply below_drew1 | refine below_set ?_ GE126.out | refine below_set ?_ GE133.out) | exact HB.out)) hb); have n6_ := Aside0.mk (hbox); have n7_ := Aside0.mk ((by rw [hg]; exact (below_size (by repeat (first | (with_reducible first | exact HB.out | apply below_alloc | apply pw_below_drewN | apply below_drew1 | refine below_set ?_ GE126.out | refine below_set ?_ GE133.out) | exact HB.out))) : w.heap.size ≤ gb140)); have n8_ := Aside0.mk ((by rw [hg]; exact (below_size (by repeat (first | (with_reducible first | exact HB.out | apply below_alloc | apply pw_below_drewN | apply below_drew1 | refine below_set ?_ GE126.out | refine below_set ?_ GE133.out) | exact HB.out))) : w.heap.size ≤ gb140)); have n9_ := Aside0.mk ((by rw [hg]; exact Nat.ne_of_lt (blk_lt (g := gb126) (o := .cells #[.int .i64 (0 : Int), .int .i64 (0 : Int), .string (⟨#[]⟩ : ByteArray)] 26 (0, 0)) (by (with_reducible repeat (first | refine blk_drewN ?_ _ | refine blk_drew ?_ | refine blk_alloc ?_ _)); exact BK126.out)) : gb126 ≠ gb140)); have n10_ := Aside0.mk ((by rw [hg]; exact Nat.ne_of_gt (blk_lt (g := gb126) (o := .cells #[.int .i64 (0 : Int), .int .i64 (0 : Int), .string (⟨#[]⟩ : ByteArray)] 26 (0, 0)) (by (with_reducible repeat (first | refine blk_drewN ?_ _ | refine blk_drew ?_ | refine blk_alloc ?_ _)); exact BK126.out)) : gb140 ≠ gb126)); have n11_ := Aside0.mk ((by rw [hg]; exact Nat.ne_of_lt (blk_lt (g := gb133) (o := .cells #[.int .i64 (0 : Int), .int .i64 (0 : Int), .string (⟨#[]⟩ : ByteArray)] 26 (0, 0)) (by (with_reducible repeat (first | refine blk_drewN ?_ _ | refine blk_drew ?_ | refine blk_alloc ?_ _)); exact BK133.out)) : gb133 ≠ gb140)); have n12_ := Aside0.mk ((by rw [hg]; exact Nat.ne_of_gt (blk_lt (g := gb133) (o := .cells #[.int .i64 (0 : Int), .int .i64 (0 : Int), .string (⟨#[]⟩ : ByteArray)] 26 (0, 0)) (by (with_reducible repeat (first | refine blk_drewN ?_ _ | refine blk_drew ?_ | refine blk_alloc ?_ _)); exact BK133.out)) : gb140 ≠ gb133)); clear HO122; clear HO129; clear HO136; clear BK126; clear BK133; clear HB; have HO122 := n0_; have HO129 := n1_; have HO136 := n2_; have BK126 := n3_; have BK133 := n4_; have HB := n5_; have BK140 := n6_; have GW140 := n7_; have GE140 := n8_; have NB126_140 := n9_; have NB140_126 := n10_; have NB133_140 := n11_; have NB140_133 := n12_; clear n0_ n1_ n2_ n3_ n4_ n5_ n6_ n7_ n8_ n9_ n10_ n11_ n12_; clear hb hbox hg; have hnb27 := NB140_126.out; have hnc27 := NB126_140.out; have hnb28 := NB140_133.out; have hnc28 := NB133_140.out; have hcz29_0 : w26.cell? ⟨gb140, 0, none⟩ = some (.int .i64 0) := (blk_cell BK140.out 0).trans rfl; have hcz29_1 : w26.cell? ⟨gb140, 1, none⟩ = some (.int .i64 0) := (blk_cell BK140.out 1).trans rfl; have hcz29_2 : w26.cell? ⟨gb140, 2, none⟩ = some (.string (⟨#[]⟩ : ByteArray)) := (blk_cell BK140.out 2).trans rfl; have hfz29_0 := blk_frozen BK140.out 0; have hfz29_1 := blk_frozen BK140.out 1; have hfz29_2 := blk_frozen BK140.out 2) | ((with_reducible refine gate_callee (f := 9) rfl ?_); refine goesL_ (some 22) rfl rfl Tryd.func9 (by kernel_rfl) rfl #[.string (⟨#[47, 97]⟩ : ByteArray)] rfl (by (try simp only [List.map_toArray, List.map_cons, List.map_nil]); first | done | rfl | (simp only [List.length_drop, List.length_take]; rfl)) ?_; (with_reducible refine (speclex_Scan.calls k (⟨#[47, 97]⟩ : ByteArray) t141 (13 : Int) (0 : Int) (⟨#[]⟩ : ByteArray) _ ?side1 A4.out).mono ?_); (case side1 => exact GW.below HGW.out (by repeat (first | (with_reducible first | exact HB.out | apply below_alloc | apply pw_below_drewN | apply below_drew1 | refine below_set ?_ GE126.out | refine below_set ?_ GE133.out | refine below_set ?_ GE140.out) | exact HB.out))); rintro e w30 ⟨v142, rfl, ho0, hb⟩; refine ⟨_, rfl, ?_⟩; have n0_ := Aside0.mk (Kd.R_elder' (by (with_reducible repeat (first | apply Kd.R_alloc | apply Kd.R_drewN | apply Kd.R_drew)); exact (Kd.R_mono (Kd.R_far (p := ⟨gb140, 2, none⟩) (Kd.R_far (p := ⟨gb140, 1, none⟩) (Kd.R_far (p := ⟨gb140, 0, none⟩) (Kd.R_types HO122.out BK140.out (by decide)) (fun _ hk => hk.2) (.int .i64 (14 : Int))) (fun _ hk => hk.2) (.int .i64 (0 : Int))) (fun _ hk => hk.2) (.string (⟨#[]⟩ : ByteArray))) (fun _ h_ => h_.1))) (Kd.R_base ho0) hb); have n1_ := Aside0.mk (Kd.R_elder' (by (with_reducible repeat (first | apply Kd.R_alloc | apply Kd.R_drewN | apply Kd.R_drew)); exact (Kd.R_mono (Kd.R_far (p := ⟨gb140, 2, none⟩) (Kd.R_far (p := ⟨gb140, 1, none⟩) (Kd.R_far (p := ⟨gb140, 0, none⟩) (Kd.R_types HO129.out BK140.out (by decide)) (fun _ hk => hk.2) (.int .i64 (14 : Int))) (fun _ hk => hk.2) (.int .i64 (0 : Int))) (fun _ hk => hk.2) (.string (⟨#[]⟩ : ByteArray))) (fun _ h_ => h_.1))) (Kd.R_base ho0) hb); have n2_ := Aside0.mk (Kd.R_elder' (by (with_reducible repeat (first | apply Kd.R_alloc | apply Kd.R_drewN | apply Kd.R_drew)); exact (Kd.R_mono (Kd.R_far (p := ⟨gb140, 2, none⟩) (Kd.R_far (p := ⟨gb140, 1, none⟩) (Kd.R_far (p := ⟨gb140, 0, none⟩) (Kd.R_types HO136.out BK140.out (by decide)) (fun _ hk => hk.2) (.int .i64 (14 : Int))) (fun _ hk => hk.2) (.int .i64 (0 : Int))) (fun _ hk => hk.2) (.string (⟨#[]⟩ : ByteArray))) (fun _ h_ => h_.1))) (Kd.R_base ho0) hb); have n3_ := Aside0.mk (Kd.R_lower (Kd.R_new' (Kd.R_new' (Kd.R_new' ho0 (Kd.R_lt (by (with_reducible repeat (first | apply Kd.R_alloc | apply Kd.R_drewN | apply Kd.R_drew)); exact (Kd.R_mono (Kd.R_far (p := ⟨gb140, 2, none⟩) (Kd.R_far (p := ⟨gb140, 1, none⟩) (Kd.R_far (p := ⟨gb140, 0, none⟩) (Kd.R_types HO122.out BK140.out (by decide)) (fun _ hk => hk.2) (.int .i64 (14 : Int))) (fun _ hk => hk.2) (.int .i64 (0 : Int))) (fun _ hk => hk.2) (.string (⟨#[]⟩ : ByteArray))) (fun _ h_ => h_.1))))) (Kd.R_lt (by (with_reducible repeat (first | apply Kd.R_alloc | apply Kd.R_drewN | apply Kd.R_drew)); exact (Kd.R_mono (Kd.R_far (p := ⟨gb140, 2, none⟩) (Kd.R_far (p := ⟨gb140, 1, none⟩) (Kd.R_far (p := ⟨gb140, 0, none⟩) (Kd.R_types HO129.out BK140.out (by decide)) (fun _ hk => hk.2) (.int .i64 (14 : Int))) (fun _ hk => hk.2) (.int .i64 (0 : Int))) (fun _ hk => hk.2) (.string (⟨#[]⟩ : ByteArray))) (fun _ h_ => h_.1))))) (Kd.R_lt (by (with_reducible repeat (first | apply Kd.R_alloc | apply Kd.R_drewN | apply Kd.R_drew)); exact (Kd.R_mono (Kd.R_far (p := ⟨gb140, 2, none⟩) (Kd.R_far (p := ⟨gb140, 1, none⟩) (Kd.R_far (p := ⟨gb140, 0, none⟩) (Kd.R_types HO136.out BK140.out (by decide)) (fun _ hk => hk.2) (.int .i64 (14 : Int))) (fun _ hk => hk.2) (.int .i64 (0 : Int))) (fun _ hk => hk.2) (.string (⟨#[]⟩ : ByteArray))) (fun _ h_ => h_.1))))) (below_size (by repeat (first | (with_reducible first | exact HB.out | apply below_alloc | apply pw_below_drewN | apply below_drew1 | refine below_set ?_ GE126.out | refine below_set ?_ GE133.out | refine below_set ?_ GE140.out) | exact HB.out)))); have n4_ := Aside0.mk (blk_below (g := gb126) (o := .cells #[.int .i64 (0 : Int), .int .i64 (0 : Int), .string (⟨#[]⟩ : ByteArray)] 26 (0, 0)) (by (with_reducible repeat (first | refine blk_drewN ?_ _ | refine blk_drew ?_ | refine blk_alloc ?_ _)); refine blk_far ?_ NB126_140.out _; (with_reducible repeat (first | refine blk_drewN ?_ _ | refine blk_drew ?_ | refine blk_alloc ?_ _)); refine blk_far ?_ NB126_140.out _; (with_reducible repeat (first | refine blk_drewN ?_ _ | refine blk_drew ?_ | refine blk_alloc ?_ _)); refine blk_far ?_ NB126_140.out _; (with_reducible repeat (first | refine blk_drewN ?_ _ | refine blk_drew ?_ | refine blk_alloc ?_ _)); exact BK126.out) hb); have n5_ := Aside0.mk (blk_below (g := gb133) (o := .cells #[.int .i64 (0 : Int), .int .i64 (0 : Int), .string (⟨#[]⟩ : ByteArray)] 26 (0, 0)) (by (with_reducible repeat (first | refine blk_drewN ?_ _ | refine blk_drew ?_ | refine blk_alloc ?_ _)); refine blk_far ?_ NB133_140.out _; (with_reducible repeat (first | refine blk_drewN ?_ _ | refine blk_drew ?_ | refine blk_alloc ?_ _)); refine blk_far ?_ NB133_140.out _; (with_reducible repeat (first | refine blk_drewN ?_ _ | refine blk_drew ?_ | refine blk_alloc ?_ _)); refine blk_far ?_ NB133_140.out _; (with_reducible repeat (first | refine blk_drewN ?_ _ | refine blk_drew ?_ | refine blk_alloc ?_ _)); exact BK133.out) hb); have n6_ := Aside0.mk (blk_below (g := gb140) (o := .cells #[.int .i64 (14 : Int), .int .i64 (0 : Int), .string (⟨#[]⟩ : ByteArray)] 26 (0, 0)) (by (with_reducible repeat (first | refine blk_drewN ?_ _ | refine blk_drew ?_ | refine blk_alloc ?_ _)); refine blk_put (cs := #[.int .i64 (14 : Int), .int .i64 (0 : Int), .string (⟨#[]⟩ : ByteArray)]) ?_ 2 _ rfl; (with_reducible repeat (first | refine blk_drewN ?_ _ | refine blk_drew ?_ | refine blk_alloc ?_ _)); refine blk_put (cs := #[.int .i64 (14 : Int), .int .i64 0, .string (⟨#[]⟩ : ByteArray)]) ?_ 1 _ rfl; (with_reducible repeat (first | refine blk_drewN ?_ _ | refine blk_drew ?_ | refine blk_alloc ?_ _)); refine blk_put (cs := #[.int .i64 0, .int .i64 0, .string (⟨#[]⟩ : ByteArray)]) ?_ 0 _ rfl; (with_reducible repeat (first | refine blk_drewN ?_ _ | refine blk_drew ?_ | refine blk_alloc ?_ _)); exact BK140.out) hb); have n7_ := Aside0.mk (below_step (by repeat (first | (with_reducible first | exact HB.out | apply below_alloc | apply pw_below_drewN | apply below_drew1 | refine below_set ?_ GE126.out | refine below_set ?_ GE133.out | refine below_set ?_ GE140.out) | exact HB.out)) hb); clear HO122; clear HO129; clear HO136; clear BK126; clear BK133; clear BK140; clear HB; have HO122 := n0_; have HO129 := n1_; have HO136 := n2_; have HO143 := n3_; have BK126 := n4_; have BK133 := n5_; have BK140 := n6_; have HB := n7_; clear n0_ n1_ n2_ n3_ n4_ n5_ n6_ n7_; (try clear hb); (try clear hb2); (try clear hk); (try clear hi); (try clear ho0)) | ((with_reducible refine gate_dst (N := 8) rfl ?_); (try (refine gate_guard (by rfl) ?_; dsimp only)); refine box_event ?hg (N := 8) ?hd (cs := #[.int .i64 0, .int .i64 0, .string (⟨#[]⟩ : ByteArray)]) (t := 26) ?hr ?_; (case hd => rfl); (case hg => rfl); (case hr => first | (go_simp; done) | (go_simp; rfl)); intro gb147 hg w31 hbox hb; have n0_ := Aside0.mk (Kd.R_below (by (with_reducible repeat (first | apply Kd.R_alloc | apply Kd.R_drewN | apply Kd.R_drew)); exact HO122.out) hb); have n1_ := Aside0.mk (Kd.R_below (by (with_reducible repeat (first | apply Kd.R_alloc | apply Kd.R_drewN | apply Kd.R_drew)); exact HO129.out) hb); have n2_ := Aside0.mk (Kd.R_below (by (with_reducible repeat (first | apply Kd.R_alloc | apply Kd.R_drewN | apply Kd.R_drew)); exact HO136.out) hb); have n3_ := Aside0.mk (Kd.R_below (by (with_reducible repeat (first | apply Kd.R_alloc | apply Kd.R_drewN | apply Kd.R_drew)); exact HO143.out) hb); have n4_ := Aside0.mk (blk_below (g := gb126) (o := .cells #[.int .i64 (0 : Int), .int .i64 (0 : Int), .string (⟨#[]⟩ : ByteArray)] 26 (0, 0)) (by (with_reducible repeat (first | refine blk_drewN ?_ _ | refine blk_drew ?_ | refine blk_alloc ?_ _)); exact BK126.out) hb); have n5_ := Aside0.mk (blk_below (g := gb133) (o := .cells #[.int .i64 (0 : Int), .int .i64 (0 : Int), .string (⟨#[]⟩ : ByteArray)] 26 (0, 0)) (by (with_reducible repeat (first | refine blk_drewN ?_ _ | refine blk_drew ?_ | refine blk_alloc ?_ _)); exact BK133.out) hb); have n6_ := Aside0.mk (blk_below (g := gb140) (o := .cells #[.int .i64 (14 : Int), .int .i64 (0 : Int), .string (⟨#[]⟩ : ByteArray)] 26 (0, 0)) (by (with_reducible repeat (first | refine blk_drewN ?_ _ | refine blk_drew ?_ | refine blk_alloc ?_ _)); exact BK140.out) hb); have n7_ := Aside0.mk (below_step (by repeat (first | (with_reducible first | exact HB.out | apply below_alloc | apply pw_below_drewN | apply below_drew1 | refine below_set ?_ GE126.out | refine below_set ?_ GE133.out | refine below_set ?_ GE140.out) | exact HB.out)) hb); have n8_ := Aside0.mk (hbox); have n9_ := Aside0.mk ((by rw [hg]; exact (below_size (by repeat (first | (with_reducible first | exact HB.out | apply below_alloc | apply pw_below_drewN | apply below_drew1 | refine below_set ?_ GE126.out | refine below_set ?_ GE133.out | refine below_set ?_ GE140.out) | exact HB.out))) : w.heap.size ≤ gb147)); have n10_ := Aside0.mk ((by rw [hg]; exact (below_size (by repeat (first | (with_reducible first | exact HB.out | apply below_alloc | apply pw_below_drewN | apply below_drew1 | refine below_set ?_ GE126.out | refine below_set ?_ GE133.out | refine below_set ?_ GE140.out) | exact HB.out))) : w.heap.size ≤ gb147)); have n11_ := Aside0.mk ((by rw [hg]; exact Nat.ne_of_lt (blk_lt (g := gb126) (o := .cells #[.int .i64 (0 : Int), .int .i64 (0 : Int), .string (⟨#[]⟩ : ByteArray)] 26 (0, 0)) (by (with_reducible repeat (first | refine blk_drewN ?_ _ | refine blk_drew ?_ | refine blk_alloc ?_ _)); exact BK126.out)) : gb126 ≠ gb147)); have n12_ := Aside0.mk ((by rw [hg]; exact Nat.ne_of_gt (blk_lt (g := gb126) (o := .cells #[.int .i64 (0 : Int), .int .i64 (0 : Int), .string (⟨#[]⟩ : ByteArray)] 26 (0, 0)) (by (with_reducible repeat (first | refine blk_drewN ?_ _ | refine blk_drew ?_ | refine blk_alloc ?_ _)); exact BK126.out)) : gb147 ≠ gb126)); have n13_ := Aside0.mk ((by rw [hg]; exact Nat.ne_of_lt (blk_lt (g := gb133) (o := .cells #[.int .i64 (0 : Int), .int .i64 (0 : Int), .string (⟨#[]⟩ : ByteArray)] 26 (0, 0)) (by (with_reducible repeat (first | refine blk_drewN ?_ _ | refine blk_drew ?_ | refine blk_alloc ?_ _)); exact BK133.out)) : gb133 ≠ gb147)); have n14_ := Aside0.mk ((by rw [hg]; exact Nat.ne_of_gt (blk_lt (g := gb133) (o := .cells #[.int .i64 (0 : Int), .int .i64 (0 : Int), .string (⟨#[]⟩ : ByteArray)] 26 (0, 0)) (by (with_reducible repeat (first | refine blk_drewN ?_ _ | refine blk_drew ?_ | refine blk_alloc ?_ _)); exact BK133.out)) : gb147 ≠ gb133)); have n15_ := Aside0.mk ((by rw [hg]; exact Nat.ne_of_lt (blk_lt (g := gb140) (o := .cells #[.int .i64 (14 : Int), .int .i64 (0 : Int), .string (⟨#[]⟩ : ByteArray)] 26 (0, 0)) (by (with_reducible repeat (first | refine blk_drewN ?_ _ | refine blk_drew ?_ | refine blk_alloc ?_ _)); exact BK140.out)) : gb140 ≠ gb147)); have n16_ := Aside0.mk ((by rw [hg]; exact Nat.ne_of_gt (blk_lt (g := gb140) (o := .cells #[.int .i64 (14 : Int), .int .i64 (0 : Int), .string (⟨#[]⟩ : ByteArray)] 26 (0, 0)) (by (with_reducible repeat (first | refine blk_drewN ?_ _ | refine blk_drew ?_ | refine blk_alloc ?_ _)); exact BK140.out)) : gb147 ≠ gb140)); clear HO122; clear HO129; clear HO136; clear HO143; clear BK126; clear BK133; clear BK140; clear HB; have HO122 := n0_; have HO129 := n1_; have HO136 := n2_; have HO143 := n3_; have BK126 := n4_; have BK133 := n5_; have BK140 := n6_; have HB := n7_; have BK147 := n8_; have GW147 := n9_; have GE147 := n10_; have NB126_147 := n11_; have NB147_126 := n12_; have NB133_147 := n13_; have NB147_133 := n14_; have NB140_147 := n15_; have NB147_140 := n16_; clear n0_ n1_ n2_ n3_ n4_ n5_ n6_ n7_ n8_ n9_ n10_ n11_ n12_ n13_ n14_ n15_ n16_; clear hb hbox hg; have hnb32 := NB147_126.out; have hnc32 := NB126_147.out; have hnb33 := NB147_133.out; have hnc33 := NB133_147.out; have hnb34 := NB147_140.out; have hnc34 := NB140_147.out; have hcz35_0 : w31.cell? ⟨gb147, 0, none⟩ = some (.int .i64 0) := (blk_cell BK147.out 0).trans rfl; have hcz35_1 : w31.cell? ⟨gb147, 1, none⟩ = some (.int .i64 0) := (blk_cell BK147.out 1).trans rfl; have hcz35_2 : w31.cell? ⟨gb147, 2, none⟩ = some (.string (⟨#[]⟩ : ByteArray)) := (blk_cell BK147.out 2).trans rfl; have hfz35_0 := blk_frozen BK147.out 0; have hfz35_1 := blk_frozen BK147.out 1; have hfz35_2 := blk_frozen BK147.out 2; have hcz36_0 : w31.cell? ⟨gb126, 0, none⟩ = some (.int .i64 (0 : Int)) := (blk_cell BK126.out 0).trans rfl; have hcz36_1 : w31.cell? ⟨gb126, 1, none⟩ = some (.int .i64 (0 : Int)) := (blk_cell BK126.out 1).trans rfl; have hcz36_2 : w31.cell? ⟨gb126, 2, none⟩ = some (.string (⟨#[]⟩ : ByteArray)) := (blk_cell BK126.out 2).trans rfl; have hfz36_0 := blk_frozen BK126.out 0; have hfz36_1 := blk_frozen BK126.out 1; have hfz36_2 := blk_frozen BK126.out 2; have hcz37_0 : w31.cell? ⟨gb133, 0, none⟩ = some (.int .i64 (0 : Int)) := (blk_cell BK133.out 0).trans rfl; have hcz37_1 : w31.cell? ⟨gb133, 1, none⟩ = some (.int .i64 (0 : Int)) := (blk_cell BK133.out 1).trans rfl; have hcz37_2 : w31.cell? ⟨gb133, 2, none⟩ = some (.string (⟨#[]⟩ : ByteArray)) := (blk_cell BK133.out 2).trans rfl; have hfz37_0 := blk_frozen BK133.out 0; have hfz37_1 := blk_frozen BK133.out 1; have hfz37_2 := blk_frozen BK133.out 2; have hcz38_0 : w31.cell? ⟨gb140, 0, none⟩ = some (.int .i64 (14 : Int)) := (blk_cell BK140.out 0).trans rfl; have hcz38_1 : w31.cell? ⟨gb140, 1, none⟩ = some (.int .i64 (0 : Int)) := (blk_cell BK140.out 1).trans rfl; have hcz38_2 : w31.cell? ⟨gb140, 2, none⟩ = some (.string (⟨#[]⟩ : ByteArray)) := (blk_cell BK140.out 2).trans rfl; have hfz38_0 := blk_frozen BK140.out 0; have hfz38_1 := blk_frozen BK140.out 1; have hfz38_2 := blk_frozen BK140.out 2; obtain ⟨Ao39, co39, eo39⟩ := Kd.R_slice HO122.out; subst eo39; have p148 : 0 ≤ (3 : Int) := (by omega); have q148 : 3 < (t120.length : Int) := of_decide_eq_true (by first | (with_reducible assumption) | assumption); obtain ⟨ad148, e148, hx148_0, hx148_1, hx148_2⟩ := at_T32 (Kd.R_reads' HO122.out).2.2 3 p148 q148; cases e148; (try simp only [show (3 : Int).toNat = 3 from rfl, Nat.reduceMul, Nat.reduceEqDiff, Go.Addr.add, ↓reduceIte] at hx148_0); (try simp only [show (3 : Int).toNat = 3 from rfl, Nat.reduceMul, Nat.reduceEqDiff, Go.Addr.add, ↓reduceIte] at hx148_1); (try simp only [show (3 : Int).toNat = 3 from rfl, Nat.reduceMul, Nat.reduceEqDiff, Go.Addr.add, ↓reduceIte] at hx148_2); have qi148 : (3 < t120.length) = True := eq_true (by omega); (try rw [show ((3 : Int)).toNat = 3 from rfl] at hx148_0); (try rw [show 3 * 3 = 9 from rfl] at hx148_0); (try rw [show ((3 : Int)).toNat = 3 from rfl] at hx148_1); (try rw [show 3 * 3 = 9 from rfl] at hx148_1); (try rw [show ((3 : Int)).toNat = 3 from rfl] at hx148_2); (try rw [show 3 * 3 = 9 from rfl] at hx148_2); have hn148_0 : ad148.block ≠ gb147 := Kd.own_blk (Kd.R_ne HO122.out BK147.out (by decide)); have hn148_1 : ad148.block ≠ gb147 := Kd.own_blk (Kd.R_ne HO122.out BK147.out (by decide)); have hn148_2 : ad148.block ≠ gb147 := Kd.own_blk (Kd.R_ne HO122.out BK147.out (by decide)); replace hx148_0 := (cell_far (p := ⟨gb147, 0, none⟩) (by first | (rw [add_block]; exact hn148_0) | (show (Addr.add _ _).block ≠ _; rw [add_block]; exact hn148_0) | exact hn148_0) (.int .i64 (13 : Int))).trans hx148_0; replace hx148_1 := (cell_far (p := ⟨gb147, 0, none⟩) (by first | (rw [add_block]; exact hn148_0) | (show (Addr.add _ _).block ≠ _; rw [add_block]; exact hn148_0) | exact hn148_0) (.int .i64 (13 : Int))).trans hx148_1; replace hx148_2 := (cell_far (p := ⟨gb147, 0, none⟩) (by first | (rw [add_block]; exact hn148_0) | (show (Addr.add _ _).block ≠ _; rw [add_block]; exact hn148_0) | exact hn148_0) (.int .i64 (13 : Int))).trans hx148_2; replace hx148_0 := (cell_far (p := ⟨gb147, 1, none⟩) (by first | (rw [add_block]; exact hn148_1) | (show (Addr.add _ _).block ≠ _; rw [add_block]; exact hn148_1) | exact hn148_1) (.int .i64 (0 : Int))).trans hx148_0; replace hx148_1 := (cell_far (p := ⟨gb147, 1, none⟩) (by first | (rw [add_block]; exact hn148_1) | (show (Addr.add _ _).block ≠ _; rw [add_block]; exact hn148_1) | exact hn148_1) (.int .i64 (0 : Int))).trans hx148_1; replace hx148_2 := (cell_far (p := ⟨gb147, 1, none⟩) (by first | (rw [add_block]; exact hn148_1) | (show (Addr.add _ _).block ≠ _; rw [add_block]; exact hn148_1) | exact hn148_1) (.int .i64 (0 : Int))).trans hx148_2; replace hx148_0 := (cell_far (p := ⟨gb147, 2, none⟩) (by first | (rw [add_block]; exact hn148_2) | (show (Addr.add _ _).block ≠ _; rw [add_block]; exact hn148_2) | exact hn148_2) (.string (⟨#[]⟩ : ByteArray))).trans hx148_0; replace hx148_1 := (cell_far (p := ⟨gb147, 2, none⟩) (by first | (rw [add_block]; exact hn148_2) | (show (Addr.add _ _).block ≠ _; rw [add_block]; exact hn148_2) | exact hn148_2) (.string (⟨#[]⟩ : ByteArray))).trans hx148_1; replace hx148_2 := (cell_far (p := ⟨gb147, 2, none⟩) (by first | (rw [add_block]; exact hn148_2) | (show (Addr.add _ _).block ≠ _; rw [add_block]; exact hn148_2) | exact hn148_2) (.string (⟨#[]⟩ : ByteArray))).trans hx148_2; clear hn148_0; clear hn148_1; clear hn148_2; replace p148 := eq_true p148; replace q148 := eq_true q148; have p149 : 0 ≤ (5 : Int) := (by omega); have q149 : 5 < (t120.length : Int) := of_decide_eq_true (by first | (with_reducible assumption) | assumption); obtain ⟨ad149, e149, hx149_0, hx149_1, hx149_2⟩ := at_T32 (Kd.R_reads' HO122.out).2.2 5 p149 q149; obtain rfl : ad148 = ad149 := (by injection e149); (try simp only [show (5 : Int).toNat = 5 from rfl, Nat.reduceMul, Nat.reduceEqDiff, Go.Addr.add, ↓reduceIte] at hx149_0); (try simp only [show (5 : Int).toNat = 5 from rfl, Nat.reduceMul, Nat.reduceEqDiff, Go.Addr.add, ↓reduceIte] at hx149_1); (try simp only [show (5 : Int).toNat = 5 from rfl, Nat.reduceMul, Nat.reduceEqDiff, Go.Addr.add, ↓reduceIte] at hx149_2); have qi149 : (5 < t120.length) = True := eq_true (by omega); (try rw [show ((5 : Int)).toNat = 5 from rfl] at hx149_0); (try rw [show 5 * 3 = 15 from rfl] at hx149_0); (try rw [show ((5 : Int)).toNat = 5 from rfl] at hx149_1); (try rw [show 5 * 3 = 15 from rfl] at hx149_1); (try rw [show ((5 : Int)).toNat = 5 from rfl] at hx149_2); (try rw [show 5 * 3 = 15 from rfl] at hx149_2); have hn149_0 : ad148.block ≠ gb147 := Kd.own_blk (Kd.R_ne HO122.out BK147.out (by decide)); have hn149_1 : ad148.block ≠ gb147 := Kd.own_blk (Kd.R_ne HO122.out BK147.out (by decide)); have hn149_2 : ad148.block ≠ gb147 := Kd.own_blk (Kd.R_ne HO122.out BK147.out (by decide)); replace hx149_0 := (cell_far (p := ⟨gb147, 0, none⟩) (by first | (rw [add_block]; exact hn149_0) | (show (Addr.add _ _).block ≠ _; rw [add_block]; exact hn149_0) | exact hn149_0) (.int .i64 (13 : Int))).trans hx149_0; replace hx149_1 := (cell_far (p := ⟨gb147, 0, none⟩) (by first | (rw [add_block]; exact hn149_0) | (show (Addr.add _ _).block ≠ _; rw [add_block]; exact hn149_0) | exact hn149_0) (.int .i64 (13 : Int))).trans hx149_1; replace hx149_2 := (cell_far (p := ⟨gb147, 0, none⟩) (by first | (rw [add_block]; exact hn149_0) | (show (Addr.add _ _).block ≠ _; rw [add_block]; exact hn149_0) | exact hn149_0) (.int .i64 (13 : Int))).trans hx149_2; replace hx149_0 := (cell_far (p := ⟨gb147, 1, none⟩) (by first | (rw [add_block]; exact hn149_1) | (show (Addr.add _ _).block ≠ _; rw [add_block]; exact hn149_1) | exact hn149_1) (.int .i64 (0 : Int))).trans hx149_0; replace hx149_1 := (cell_far (p := ⟨gb147, 1, none⟩) (by first | (rw [add_block]; exact hn149_1) | (show (Addr.add _ _).block ≠ _; rw [add_block]; exact hn149_1) | exact hn149_1) (.int .i64 (0 : Int))).trans hx149_1; replace hx149_2 := (cell_far (p := ⟨gb147, 1, none⟩) (by first | (rw [add_block]; exact hn149_1) | (show (Addr.add _ _).block ≠ _; rw [add_block]; exact hn149_1) | exact hn149_1) (.int .i64 (0 : Int))).trans hx149_2; replace hx149_0 := (cell_far (p := ⟨gb147, 2, none⟩) (by first | (rw [add_block]; exact hn149_2) | (show (Addr.add _ _).block ≠ _; rw [add_block]; exact hn149_2) | exact hn149_2) (.string (⟨#[]⟩ : ByteArray))).trans hx149_0; replace hx149_1 := (cell_far (p := ⟨gb147, 2, none⟩) (by first | (rw [add_block]; exact hn149_2) | (show (Addr.add _ _).block ≠ _; rw [add_block]; exact hn149_2) | exact hn149_2) (.string (⟨#[]⟩ : ByteArray))).trans hx149_1; replace hx149_2 := (cell_far (p := ⟨gb147, 2, none⟩) (by first | (rw [add_block]; exact hn149_2) | (show (Addr.add _ _).block ≠ _; rw [add_block]; exact hn149_2) | exact hn149_2) (.string (⟨#[]⟩ : ByteArray))).trans hx149_2; clear hn149_0; clear hn149_1; clear hn149_2; replace p149 := eq_true p149; replace q149 := eq_true q149; obtain ⟨Ao40, co40, eo40⟩ := Kd.R_slice HO129.out; subst eo40; have p150 : 0 ≤ (0 : Int) := (by omega); have q150 : 0 < (t127.length : Int) := of_decide_eq_true (by first | (with_reducible assumption) | assumption); obtain ⟨ad150, e150, hx150_0, hx150_1, hx150_2⟩ := at_T32 (Kd.R_reads' HO129.out).2.2 0 p150 q150; cases e150; have qi150 : (0 < t127.length) = True := eq_true (by omega); (try rw [show ((0 : Int)).toNat = 0 from rfl] at hx150_0); (try rw [show 0 * 3 = 0 from rfl] at hx150_0); (try rw [Addr.add_zero'] at hx150_0); (try rw [show ((0 : Int)).toNat = 0 from rfl] at hx150_1); (try rw [show 0 * 3 = 0 from rfl] at hx150_1); (try rw [Addr.add_zero'] at hx150_1); (try rw [show ((0 : Int)).toNat = 0 from rfl] at hx150_2); (try rw [show 0 * 3 = 0 from rfl] at hx150_2); (try rw [Addr.add_zero'] at hx150_2); have hn150_0 : ad150.block ≠ gb147 := Kd.own_blk (Kd.R_ne HO129.out BK147.out (by decide)); have hn150_1 : ad150.block ≠ gb147 := Kd.own_blk (Kd.R_ne HO129.out BK147.out (by decide)); have hn150_2 : ad150.block ≠ gb147 := Kd.own_blk (Kd.R_ne HO129.out BK147.out (by decide)); replace hx150_0 := (cell_far (p := ⟨gb147, 0, none⟩) (by first | (rw [add_block]; exact hn150_0) | (show (Addr.add _ _).block ≠ _; rw [add_block]; exact hn150_0) | exact hn150_0) (.int .i64 (13 : Int))).trans hx150_0; replace hx150_1 := (cell_far (p := ⟨gb147, 0, none⟩) (by first | (rw [add_block]; exact hn150_0) | (show (Addr.add _ _).block ≠ _; rw [add_block]; exact hn150_0) | exact hn150_0) (.int .i64 (13 : Int))).trans hx150_1; replace hx150_2 := (cell_far (p := ⟨gb147, 0, none⟩) (by first | (rw [add_block]; exact hn150_0) | (show (Addr.add _ _).block ≠ _; rw [add_block]; exact hn150_0) | exact hn150_0) (.int .i64 (13 : Int))).trans hx150_2; replace hx150_0 := (cell_far (p := ⟨gb147, 1, none⟩) (by first | (rw [add_block]; exact hn150_1) | (show (Addr.add _ _).block ≠ _; rw [add_block]; exact hn150_1) | exact hn150_1) (.int .i64 (0 : Int))).trans hx150_0; replace hx150_1 := (cell_far (p := ⟨gb147, 1, none⟩) (by first | (rw [add_block]; exact hn150_1) | (show (Addr.add _ _).block ≠ _; rw [add_block]; exact hn150_1) | exact hn150_1) (.int .i64 (0 : Int))).trans hx150_1; replace hx150_2 := (cell_far (p := ⟨gb147, 1, none⟩) (by first | (rw [add_block]; exact hn150_1) | (show (Addr.add _ _).block ≠ _; rw [add_block]; exact hn150_1) | exact hn150_1) (.int .i64 (0 : Int))).trans hx150_2; replace hx150_0 := (cell_far (p := ⟨gb147, 2, none⟩) (by first | (rw [add_block]; exact hn150_2) | (show (Addr.add _ _).block ≠ _; rw [add_block]; exact hn150_2) | exact hn150_2) (.string (⟨#[]⟩ : ByteArray))).trans hx150_0; replace hx150_1 := (cell_far (p := ⟨gb147, 2, none⟩) (by first | (rw [add_block]; exact hn150_2) | (show (Addr.add _ _).block ≠ _; rw [add_block]; exact hn150_2) | exact hn150_2) (.string (⟨#[]⟩ : ByteArray))).trans hx150_1; replace hx150_2 := (cell_far (p := ⟨gb147, 2, none⟩) (by first | (rw [add_block]; exact hn150_2) | (show (Addr.add _ _).block ≠ _; rw [add_block]; exact hn150_2) | exact hn150_2) (.string (⟨#[]⟩ : ByteArray))).trans hx150_2; clear hn150_0; clear hn150_1; clear hn150_2; replace p150 := eq_true p150; replace q150 := eq_true q150) | (go_at_call 12; (with_reducible refine (speclex_Show.calls _ _ t127 t151 _ ?side3 ?side1 ?side2 A17.out).mono ?_); (case side1 => refine (Kd.R_reads' (e := 32) (base := w.heap.size) (ok := fun k_ => (((True ∧ some k_ ≠ (.slice (some ad148) t120.length co39 : Value).ownBlock) ∧ some k_ ≠ (v135 : Value).ownBlock) ∧ some k_ ≠ (v142 : Value).ownBlock)) (n := t127.length) (c := co40) ?_).2.2; exact (by (with_reducible repeat (first | apply Kd.R_alloc | apply Kd.R_drewN | apply Kd.R_drew)); exact (Kd.R_mono (Kd.R_far (p := ⟨gb147, 2, none⟩) (Kd.R_far (p := ⟨gb147, 1, none⟩) (Kd.R_far (p := ⟨gb147, 0, none⟩) (Kd.R_types HO129.out BK147.out (by decide)) (fun _ hk => hk.2) (.int .i64 (13 : Int))) (fun _ hk => hk.2) (.int .i64 (0 : Int))) (fun _ hk => hk.2) (.string (⟨#[]⟩ : ByteArray))) (fun _ h_ => h_.1)))); (case side2 => exact (Kd.R_reads' HO129.out).2.1); (case side3 => exact GW.below HGW.out (by repeat (first | (with_reducible first | exact HB.out | apply below_alloc | apply pw_below_drewN | apply below_drew1 | refine below_set ?_ GE126.out | refine below_set ?_ GE133.out | refine below_set ?_ GE140.out | refine below_set ?_ GE147.out) | exact HB.out))); rintro e w41 ⟨rfl, hb⟩; have n0_ := Aside0.mk (Kd.R_below (by (with_reducible repeat (first | apply Kd.R_alloc | apply Kd.R_drewN | apply Kd.R_drew)); exact (Kd.R_mono (Kd.R_far (p := ⟨gb147, 2, none⟩) (Kd.R_far (p := ⟨gb147, 1, none⟩) (Kd.R_far (p := ⟨gb147, 0, none⟩) (Kd.R_types HO122.out BK147.out (by decide)) (fun _ hk => hk.2) (.int .i64 (13 : Int))) (fun _ hk => hk.2) (.int .i64 (0 : Int))) (fun _ hk => hk.2) (.string (⟨#[]⟩ : ByteArray))) (fun _ h_ => h_.1))) hb); have n1_ := Aside0.mk (Kd.R_below (by (with_reducible repeat (first | apply Kd.R_alloc | apply Kd.R_drewN | apply Kd.R_drew)); exact (Kd.R_mono (Kd.R_far (p := ⟨gb147, 2, none⟩) (Kd.R_far (p := ⟨gb147, 1, none⟩) (Kd.R_far (p := ⟨gb147, 0, none⟩) (Kd.R_types HO129.out BK147.out (by decide)) (fun _ hk => hk.2) (.int .i64 (13 : Int))) (fun _ hk => hk.2) (.int .i64 (0 : Int))) (fun _ hk => hk.2) (.string (⟨#[]⟩ : ByteArray))) (fun _ h_ => h_.1))) hb); have n2_ := Aside0.mk (Kd.R_below (by (with_reducible repeat (first | apply Kd.R_alloc | apply Kd.R_drewN | apply Kd.R_drew)); exact (Kd.R_mono (Kd.R_far (p := ⟨gb147, 2, none⟩) (Kd.R_far (p := ⟨gb147, 1, none⟩) (Kd.R_far (p := ⟨gb147, 0, none⟩) (Kd.R_types HO136.out BK147.out (by decide)) (fun _ hk => hk.2) (.int .i64 (13 : Int))) (fun _ hk => hk.2) (.int .i64 (0 : Int))) (fun _ hk => hk.2) (.string (⟨#[]⟩ : ByteArray))) (fun _ h_ => h_.1))) hb); have n3_ := Aside0.mk (Kd.R_below (by (with_reducible repeat (first | apply Kd.R_alloc | apply Kd.R_drewN | apply Kd.R_drew)); exact (Kd.R_mono (Kd.R_far (p := ⟨gb147, 2, none⟩) (Kd.R_far (p := ⟨gb147, 1, none⟩) (Kd.R_far (p := ⟨gb147, 0, none⟩) (Kd.R_types HO143.out BK147.out (by decide)) (fun _ hk => hk.2) (.int .i64 (13 : Int))) (fun _ hk => hk.2) (.int .i64 (0 : Int))) (fun _ hk => hk.2) (.string (⟨#[]⟩ : ByteArray))) (fun _ h_ => h_.1))) hb); have n4_ := Aside0.mk (blk_below (g := gb126) (o := .cells #[.int .i64 (0 : Int), .int .i64 (0 : Int), .string (⟨#[]⟩ : ByteArray)] 26 (0, 0)) (by (with_reducible repeat (first | refine blk_drewN ?_ _ | refine blk_drew ?_ | refine blk_alloc ?_ _)); refine blk_far ?_ NB126_147.out _; (with_reducible repeat (first | refine blk_drewN ?_ _ | refine blk_drew ?_ | refine blk_alloc ?_ _)); refine blk_far ?_ NB126_147.out _; (with_reducible repeat (first | refine blk_drewN ?_ _ | refine blk_drew ?_ | refine blk_alloc ?_ _)); refine blk_far ?_ NB126_147.out _; (with_reducible repeat (first | refine blk_drewN ?_ _ | refine blk_drew ?_ | refine blk_alloc ?_ _)); exact BK126.out) hb); have n5_ := Aside0.mk (blk_below (g := gb133) (o := .cells #[.int .i64 (0 : Int), .int .i64 (0 : Int), .string (⟨#[]⟩ : ByteArray)] 26 (0, 0)) (by (with_reducible repeat (first | refine blk_drewN ?_ _ | refine blk_drew ?_ | refine blk_alloc ?_ _)); refine blk_far ?_ NB133_147.out _; (with_reducible repeat (first | refine blk_drewN ?_ _ | refine blk_drew ?_ | refine blk_alloc ?_ _)); refine blk_far ?_ NB133_147.out _; (with_reducible repeat (first | refine blk_drewN ?_ _ | refine blk_drew ?_ | refine blk_alloc ?_ _)); refine blk_far ?_ NB133_147.out _; (with_reducible repeat (first | refine blk_drewN ?_ _ | refine blk_drew ?_ | refine blk_alloc ?_ _)); exact BK133.out) hb); have n6_ := Aside0.mk (blk_below (g := gb140) (o := .cells #[.int .i64 (14 : Int), .int .i64 (0 : Int), .string (⟨#[]⟩ : ByteArray)] 26 (0, 0)) (by (with_reducible repeat (first | refine blk_drewN ?_ _ | refine blk_drew ?_ | refine blk_alloc ?_ _)); refine blk_far ?_ NB140_147.out _; (with_reducible repeat (first | refine blk_drewN ?_ _ | refine blk_drew ?_ | refine blk_alloc ?_ _)); refine blk_far ?_ NB140_147.out _; (with_reducible repeat (first | refine blk_drewN ?_ _ | refine blk_drew ?_ | refine blk_alloc ?_ _)); refine blk_far ?_ NB140_147.out _; (with_reducible repeat (first | refine blk_drewN ?_ _ | refine blk_drew ?_ | refine blk_alloc ?_ _)); exact BK140.out) hb); have n7_ := Aside0.mk (blk_below (g := gb147) (o := .cells #[.int .i64 (13 : Int), .int .i64 (0 : Int), .string (⟨#[]⟩ : ByteArray)] 26 (0, 0)) (by (with_reducible repeat (first | refine blk_drewN ?_ _ | refine blk_drew ?_ | refine blk_alloc ?_ _)); refine blk_put (cs := #[.int .i64 (13 : Int), .int .i64 (0 : Int), .string (⟨#[]⟩ : ByteArray)]) ?_ 2 _ rfl; (with_reducible repeat (first | refine blk_drewN ?_ _ | refine blk_drew ?_ | refine blk_alloc ?_ _)); refine blk_put (cs := #[.int .i64 (13 : Int), .int .i64 0, .string (⟨#[]⟩ : ByteArray)]) ?_ 1 _ rfl; (with_reducible repeat (first | refine blk_drewN ?_ _ | refine blk_drew ?_ | refine blk_alloc ?_ _)); refine blk_put (cs := #[.int .i64 0, .int .i64 0, .string (⟨#[]⟩ : ByteArray)]) ?_ 0 _ rfl; (with_reducible repeat (first | refine blk_drewN ?_ _ | refine blk_drew ?_ | refine blk_alloc ?_ _)); exact BK147.out) hb); have n8_ := Aside0.mk (below_step (by repeat (first | (with_reducible first | exact HB.out | apply below_alloc | apply pw_below_drewN | apply below_drew1 | refine below_set ?_ GE126.out | refine below_set ?_ GE133.out | refine below_set ?_ GE140.out | refine below_set ?_ GE147.out) | exact HB.out)) hb); clear HO122; clear HO129; clear HO136; clear HO143; clear BK126; clear BK133; clear BK140; clear BK147; clear HB; have HO122 := n0_; have HO129 := n1_; have HO136 := n2_; have HO143 := n3_; have BK126 := n4_; have BK133 := n5_; have BK140 := n6_; have BK147 := n7_; have HB := n8_; clear n0_ n1_ n2_ n3_ n4_ n5_ n6_ n7_ n8_; (try clear hb); (try clear hb2); (try clear hk); (try clear hi)))
                          go_ret
                          exact ⟨by first | rfl | (simp [errW_none, errW_some] <;> rfl) | (simp [*, errW_none, errW_some] <;> rfl), by repeat (first | (with_reducible first | exact HB.out | apply below_alloc | apply pw_below_drewN | apply below_drew1 | refine below_set ?_ GE126.out | refine below_set ?_ GE133.out | refine below_set ?_ GE140.out | refine below_set ?_ GE147.out) | exact HB.out)⟩
                        · rw [if_neg c16] at H
                          exact absurd H (by simp)
                      · rw [if_neg c15] at H
                        exact absurd H (by simp)
                    · rw [if_neg c14] at H
                      exact absurd H (by simp)
                  · rw [if_neg c13] at H
                    exact absurd H (by simp)
                · rw [if_neg c12] at H
                  exact absurd H (by simp)
              · rw [if_neg c11] at H
                exact absurd H (by simp)
            · rw [if_neg c10] at H
              exact absurd H (by simp)
          · rw [if_neg c9] at H
            exact absurd H (by simp)
        · rw [if_neg c8] at H
          exact absurd H (by simp)
      · rw [if_neg c7] at H
        exact absurd H (by simp)
    · rw [if_neg c6] at H
      exact absurd H (by simp)
  · rw [if_neg c5] at H
    exact absurd H (by simp)
end Go.Proofs.YthijdjpipjbkbaaDoor.H
end
section
namespace Go.Proofs.YthijdjpipjbkbaaDoor.H
open Go.RowKit Go.Proofs.YthijdjpipjbkbaaDoorW.PrintWords Go.Proofs.YthijdjpipjbkbaaDoorW.PrintLast Go.Proofs.YthijdjpipjbkbaaDoorW.PrintMore
set_option linter.unusedVariables false
set_option linter.unusedSimpArgs false
set_option maxRecDepth 100000 in
theorem knows_true : arboristlaw11_knows.f 60 = some true := by
  simp only [arboristlaw11_knows.f, ByteArray.toList_eq]
  kernel_rfl
theorem knows_ends : Ends (fun k => (arboristlaw11_knows.f k).bind fun t => some t) true := Ends.bind (g := fun _ t => some t) (Ends.of_mono (fun k => arboristlaw11_knows.mono k) ⟨60, knows_true⟩) (Ends.const _)
end Go.Proofs.YthijdjpipjbkbaaDoor.H
end
section
namespace Go.Proofs.YthijdjpipjbkbaaDoor.H
open Go.RowKit Go.Proofs.YthijdjpipjbkbaaDoorW.PrintWords Go.Proofs.YthijdjpipjbkbaaDoorW.PrintLast Go.Proofs.YthijdjpipjbkbaaDoorW.PrintMore
attribute [local go_sem] max2_int min2_int max_two min_two max_three min_three max_four min_four
set_option linter.unusedVariables false
set_option linter.unusedSimpArgs false
attribute [local go_sem high] eqA26
def arboristlaw11_SpeclexBack.f (k : Nat) (a0 : ByteArray) : Option (Bool) := if (a0.size : Int) > 400 then ((arboristlaw11_knows.f k).bind fun t237 => (some t237)) else ((speclex_Scan.f k a0).bind fun bt238 => (if bt238.2.1 = 0 then ((speclex_Show.f bt238.1).bind fun t246 => (if (t246.size : Int) > 65536 then ((arboristlaw11_knows.f k).bind fun t247 => (some t247)) else ((speclex_Scan.f k t246).bind fun bt248 => (if (bt248.2.1 == 0 && (bt248.2.2.1 == 0 && (bt248.2.2.2.toList == ([] : List UInt8)))) = true then ((arboristlaw11_same.f k bt238.1 bt248.1).bind fun t255 => (if t255 = true then ((arboristlaw11_knows.f k).bind fun t256 => (some t256)) else (some false))) else (some false))))) else (if (bt238.1.length : Int) = 0 then ((arboristlaw11_knows.f k).bind fun t245 => (some t245)) else (some false))))
theorem diag0 {a b : Int} {c : ByteArray} (h : (a == 0 && (b == 0 && (c.toList == ([] : List UInt8)))) = true) : a = 0 ∧ b = 0 ∧ c = ⟨#[]⟩ := by
 (simp only [Bool.and_eq_true, beq_iff_eq] at h); (refine ⟨h.1, h.2.1, ba_ext ?_⟩); (have := h.2.2); (rw [Lib.toList_data] at this); (exact this)
theorem diag0n {a b : Int} {c : ByteArray} (h : ¬ (a == 0 && (b == 0 && (c.toList == ([] : List UInt8)))) = true) : ¬ (a = 0 ∧ b = 0 ∧ c.toList = []) := fun q => h (by simp [q.1, q.2.1, q.2.2])
set_option maxHeartbeats 8000000 in
set_option maxRecDepth 100000 in
theorem arboristlaw11_SpeclexBack.calls (k : Nat) (a0 : ByteArray) (r : Bool) (w : World) (hgw : GW w) (h : arboristlaw11_SpeclexBack.f k a0 = some r) :
  Calls Tryd.prog 5 #[.string a0] w fun e w' => e = .returned (.bool r) ∧ Below w.heap.size w w' := by
 (have HGW := qM hgw); clear hgw; (have hu26 := Tryd.underlying26); (have HB := qM (Below.refl w.heap.size w))
 have H : (if (a0.size : Int) > 400 then ((arboristlaw11_knows.f k).bind fun t237 => (some t237)) else ((speclex_Scan.f k a0).bind fun bt238 => (if bt238.2.1 = 0 then ((speclex_Show.f bt238.1).bind fun t246 => (if (t246.size : Int) > 65536 then ((arboristlaw11_knows.f k).bind fun t247 => (some t247)) else ((speclex_Scan.f k t246).bind fun bt248 => (if (bt248.2.1 == 0 && (bt248.2.2.1 == 0 && (bt248.2.2.2.toList == ([] : List UInt8)))) = true then ((arboristlaw11_same.f k bt238.1 bt248.1).bind fun t255 => (if t255 = true then ((arboristlaw11_knows.f k).bind fun t256 => (some t256)) else (some false))) else (some false))))) else (if (bt238.1.length : Int) = 0 then ((arboristlaw11_knows.f k).bind fun t245 => (some t245)) else (some false))))) = some r := h
 clear h; (by_cases c2 : (a0.size : Int) > 400)
 ·rw [if_pos c2] at H
  (have c2b0 : decide (400 < (a0.size : Int)) = true := decide_eq_true c2); (have c2b1 : decide (400 < a0.size) = true := decide_eq_true (by omega)); clear c2; (replace H := Option.bind_eq_some_iff.mp H); (obtain ⟨t237, A30, H⟩ := H); (replace H : (some t237) = some r := H); (have A3 := qM A30); clear A30; (obtain rfl := Option.some.inj H); (go_enter Tryd.func5, Tryd.ntmps5)
  go_wp2_with (first | ((with_reducible refine gate_callee (f := 8) rfl ?_); refine goesL_ (some 11) rfl rfl Tryd.func8 (by kernel_rfl) rfl #[] rfl (by (try simp only [List.map_toArray, List.map_cons, List.map_nil]); first | done | rfl | (simp only [List.length_drop, List.length_take]; rfl)) ?_; (with_reducible refine (arboristlaw11_knows.calls k  t237 _ ?side1 A3.out).mono ?_); (case side1 => exact GW.below HGW.out qF); rintro e w4 ⟨rfl, hb⟩; refine ⟨_, rfl, ?_⟩; have n0_ := qM (qP qF hb); clear HB; have HB := n0_; clear n0_; (try clear hb); (try clear hb2); (try clear hk); (try clear hi)))
  (go_ret); (exact ⟨qE, qF⟩)
 ·rw [if_neg c2] at H
  (have c2b0 : decide (400 < (a0.size : Int)) = false := decide_eq_false c2); (have c2b1 : decide (400 < a0.size) = false := decide_eq_false (by omega)); clear c2; (replace H := Option.bind_eq_some_iff.mp H); (obtain ⟨⟨t238, t241, t242, t243⟩, A50, H⟩ := H); (replace H : (if t241 = 0 then ((speclex_Show.f t238).bind fun t246 => (if (t246.size : Int) > 65536 then ((arboristlaw11_knows.f k).bind fun t247 => (some t247)) else ((speclex_Scan.f k t246).bind fun bt248 => (if (bt248.2.1 == 0 && (bt248.2.2.1 == 0 && (bt248.2.2.2.toList == ([] : List UInt8)))) = true then ((arboristlaw11_same.f k t238 bt248.1).bind fun t255 => (if t255 = true then ((arboristlaw11_knows.f k).bind fun t256 => (some t256)) else (some false))) else (some false))))) else (if (t238.length : Int) = 0 then ((arboristlaw11_knows.f k).bind fun t245 => (some t245)) else (some false))) = some r := H); (have A5 := qM A50); clear A50; (by_cases c6 : t241 = 0)
  ·rw [if_pos c6] at H
   (have c6b0 : (t241 == 0) = true := beq_iff_eq.mpr c6); (have c6b1 : (t241 != 0) = false := bne_eq_false_iff_eq.mpr c6); clear c6; (replace H := Option.bind_eq_some_iff.mp H); (obtain ⟨t246, A70, H⟩ := H); (replace H : (if (t246.size : Int) > 65536 then ((arboristlaw11_knows.f k).bind fun t247 => (some t247)) else ((speclex_Scan.f k t246).bind fun bt248 => (if (bt248.2.1 == 0 && (bt248.2.2.1 == 0 && (bt248.2.2.2.toList == ([] : List UInt8)))) = true then ((arboristlaw11_same.f k t238 bt248.1).bind fun t255 => (if t255 = true then ((arboristlaw11_knows.f k).bind fun t256 => (some t256)) else (some false))) else (some false)))) = some r := H); (have A7 := qM A70); clear A70; (by_cases c8 : (t246.size : Int) > 65536)
   ·rw [if_pos c8] at H
    (have c8b0 : decide (65536 < (t246.size : Int)) = true := decide_eq_true c8); (have c8b1 : decide (65536 < t246.size) = true := decide_eq_true (by omega)); clear c8; (replace H := Option.bind_eq_some_iff.mp H); (obtain ⟨t247, A90, H⟩ := H); (replace H : (some t247) = some r := H); (have A9 := qM A90); clear A90; (obtain rfl := Option.some.inj H); (go_enter Tryd.func5, Tryd.ntmps5)
    go_wp2_with (first | ((with_reducible refine gate_callee (f := 9) rfl ?_); refine goesL_ (some 14) rfl rfl Tryd.func9 (by kernel_rfl) rfl #[.string a0] rfl (by (try simp only [List.map_toArray, List.map_cons, List.map_nil]); first | done | rfl | (simp only [List.length_drop, List.length_take]; rfl)) ?_; (with_reducible refine (speclex_Scan.calls k a0 t238 t241 t242 t243 _ ?side1 A5.out).mono ?_); (case side1 => exact GW.below HGW.out qF); rintro e w10 ⟨v239, rfl, ho0, hb⟩; refine ⟨_, rfl, ?_⟩; have n0_ := qM (Kd.R_lower ho0 (qZ qF)); have n1_ := qM (qP qF hb); clear HB; have HO240 := n0_; have HB := n1_; clear n0_ n1_; (try clear hb); (try clear hb2); (try clear hk); (try clear hi); (try clear ho0)) | ((with_reducible refine gate_dst (N := 4) rfl ?_); refine box_event ?hg (N := 4) ?hd (cs := #[.int .i64 0, .int .i64 0, .string (⟨#[]⟩ : ByteArray)]) (t := 26) ?hr ?_; (case hd => rfl); (case hg => rfl); (case hr => first | (go_simp; done) | (go_simp; rfl)); intro gb244 hg w11 hbox hb; have n0_ := qM (Kd.R_below (by (with_reducible repeat (first | apply Kd.R_alloc | apply Kd.R_drewN | apply Kd.R_drew)); exact HO240.out) hb); have n1_ := qM (qP qF hb); have n2_ := qM (hbox); have n3_ := qM ((by rw [hg]; exact (qZ qF) : w.heap.size ≤ gb244)); have n4_ := qM ((by rw [hg]; exact (qZ qF) : w.heap.size ≤ gb244)); clear HO240; clear HB; have HO240 := n0_; have HB := n1_; have BK244 := n2_; have GW244 := n3_; have GE244 := n4_; clear n0_ n1_ n2_ n3_ n4_; clear hb hbox hg; obtain ⟨hcz12_0, hcz12_1, hcz12_2, hfz12_0, hfz12_1, hfz12_2⟩ := bx3 BK244.out; obtain ⟨Ao13, co13, eo13⟩ := Kd.R_slice HO240.out; subst eo13) | ((with_reducible refine gate_callee (f := 12) rfl ?_); refine goesL_ (some 27) rfl rfl Tryd.func12 (by kernel_rfl) rfl #[.slice Ao13 t238.length co13] rfl (by (try simp only [List.map_toArray, List.map_cons, List.map_nil]); first | done | rfl | (simp only [List.length_drop, List.length_take]; rfl)) ?_; (with_reducible refine (speclex_Show.calls _ _ t238 t246 _ ?side3 ?side1 ?side2 A7.out).mono ?_); (case side1 => refine (Kd.R_reads' (e := 32) (base := w.heap.size) (ok := fun k_ => True) (n := t238.length) (c := co13) ?_).2.2; exact (by (with_reducible repeat (first | apply Kd.R_alloc | apply Kd.R_drewN | apply Kd.R_drew)); exact (Kd.R_mono (Kd.R_far (p := ⟨gb244, 2, none⟩) (Kd.R_far (p := ⟨gb244, 1, none⟩) (Kd.R_far (p := ⟨gb244, 0, none⟩) (Kd.R_types HO240.out BK244.out (by decide)) (fun _ hk => hk.2) (.int .i64 t241)) (fun _ hk => hk.2) (.int .i64 t242)) (fun _ hk => hk.2) (.string t243)) (fun _ h_ => h_.1)))); (case side2 => exact (Kd.R_reads' HO240.out).2.1); (case side3 => exact GW.below HGW.out qF); rintro e w14 ⟨rfl, hb⟩; refine ⟨_, rfl, ?_⟩; have n0_ := qM (Kd.R_below (by (with_reducible repeat (first | apply Kd.R_alloc | apply Kd.R_drewN | apply Kd.R_drew)); exact (Kd.R_mono (Kd.R_far (p := ⟨gb244, 2, none⟩) (Kd.R_far (p := ⟨gb244, 1, none⟩) (Kd.R_far (p := ⟨gb244, 0, none⟩) (Kd.R_types HO240.out BK244.out (by decide)) (fun _ hk => hk.2) (.int .i64 t241)) (fun _ hk => hk.2) (.int .i64 t242)) (fun _ hk => hk.2) (.string t243)) (fun _ h_ => h_.1))) hb); have n1_ := qM (qb (g := gb244) (o := .cells #[.int .i64 t241, .int .i64 t242, .string t243] 26 (0, 0)) (by (with_reducible repeat (first | refine qn ?_ _ | refine qd ?_ | refine qa ?_ _)); refine blk_put (cs := #[.int .i64 t241, .int .i64 t242, .string (⟨#[]⟩ : ByteArray)]) ?_ 2 _ rfl; (with_reducible repeat (first | refine qn ?_ _ | refine qd ?_ | refine qa ?_ _)); refine blk_put (cs := #[.int .i64 t241, .int .i64 0, .string (⟨#[]⟩ : ByteArray)]) ?_ 1 _ rfl; (with_reducible repeat (first | refine qn ?_ _ | refine qd ?_ | refine qa ?_ _)); refine blk_put (cs := #[.int .i64 0, .int .i64 0, .string (⟨#[]⟩ : ByteArray)]) ?_ 0 _ rfl; (with_reducible repeat (first | refine qn ?_ _ | refine qd ?_ | refine qa ?_ _)); exact BK244.out) hb); have n2_ := qM (qP qF hb); clear HO240; clear BK244; clear HB; have HO240 := n0_; have BK244 := n1_; have HB := n2_; clear n0_ n1_ n2_; (try clear hb); (try clear hb2); (try clear hk); (try clear hi)) | ((with_reducible refine gate_callee (f := 8) rfl ?_); refine goesL_ (some 31) rfl rfl Tryd.func8 (by kernel_rfl) rfl #[] rfl (by (try simp only [List.map_toArray, List.map_cons, List.map_nil]); first | done | rfl | (simp only [List.length_drop, List.length_take]; rfl)) ?_; (with_reducible refine (arboristlaw11_knows.calls k  t247 _ ?side1 A9.out).mono ?_); (case side1 => exact GW.below HGW.out qF); rintro e w15 ⟨rfl, hb⟩; refine ⟨_, rfl, ?_⟩; have n0_ := qM (Kd.R_below (by (with_reducible repeat (first | apply Kd.R_alloc | apply Kd.R_drewN | apply Kd.R_drew)); exact HO240.out) hb); have n1_ := qM (qb (g := gb244) qK hb); have n2_ := qM (qP qF hb); clear HO240; clear BK244; clear HB; have HO240 := n0_; have BK244 := n1_; have HB := n2_; clear n0_ n1_ n2_; (try clear hb); (try clear hb2); (try clear hk); (try clear hi)))
    (go_ret); (exact ⟨qE, qF⟩)
   ·rw [if_neg c8] at H
    (have c8b0 : decide (65536 < (t246.size : Int)) = false := decide_eq_false c8); (have c8b1 : decide (65536 < t246.size) = false := decide_eq_false (by omega)); clear c8; (replace H := Option.bind_eq_some_iff.mp H); (obtain ⟨⟨t248, t251, t252, t253⟩, A160, H⟩ := H); (replace H : (if (t251 == 0 && (t252 == 0 && (t253.toList == ([] : List UInt8)))) = true then ((arboristlaw11_same.f k t238 t248).bind fun t255 => (if t255 = true then ((arboristlaw11_knows.f k).bind fun t256 => (some t256)) else (some false))) else (some false)) = some r := H); (have A16 := qM A160); clear A160; (by_cases c17 : (t251 == 0 && (t252 == 0 && (t253.toList == ([] : List UInt8)))) = true)
    ·rw [if_pos c17] at H
     (obtain ⟨rfl, rfl, rfl⟩ := diag0 c17); (have c17b0 : ((0 : Int) == 0 && ((0 : Int) == 0 && ((⟨#[]⟩ : ByteArray).toList == ([] : List UInt8)))) = true := c17); clear c17; (replace H := Option.bind_eq_some_iff.mp H); (obtain ⟨t255, A180, H⟩ := H); (replace H : (if t255 = true then ((arboristlaw11_knows.f k).bind fun t256 => (some t256)) else (some false)) = some r := H); (have A18 := qM A180); clear A180; (by_cases c19 : t255 = true)
     ·subst c19
      (have H1 : ((arboristlaw11_knows.f k).bind fun t256 => (some t256)) = some r := by rw [if_pos rfl] at H; exact H); clear H; (have H := H1); clear H1; (replace H := Option.bind_eq_some_iff.mp H); (obtain ⟨t256, A200, H⟩ := H); (replace H : (some t256) = some r := H); (have A20 := qM A200); clear A200; (obtain rfl := Option.some.inj H); (go_enter Tryd.func5, Tryd.ntmps5)
      go_wp2_with (first | ((with_reducible refine gate_callee (f := 9) rfl ?_); refine goesL_ (some 14) rfl rfl Tryd.func9 (by kernel_rfl) rfl #[.string a0] rfl (by (try simp only [List.map_toArray, List.map_cons, List.map_nil]); first | done | rfl | (simp only [List.length_drop, List.length_take]; rfl)) ?_; (with_reducible refine (speclex_Scan.calls k a0 t238 t241 t242 t243 _ ?side1 A5.out).mono ?_); (case side1 => exact GW.below HGW.out qF); rintro e w21 ⟨v239, rfl, ho0, hb⟩; refine ⟨_, rfl, ?_⟩; have n0_ := qM (Kd.R_lower ho0 (qZ qF)); have n1_ := qM (qP qF hb); clear HB; have HO240 := n0_; have HB := n1_; clear n0_ n1_; (try clear hb); (try clear hb2); (try clear hk); (try clear hi); (try clear ho0)) | ((with_reducible refine gate_dst (N := 4) rfl ?_); refine box_event ?hg (N := 4) ?hd (cs := #[.int .i64 0, .int .i64 0, .string (⟨#[]⟩ : ByteArray)]) (t := 26) ?hr ?_; (case hd => rfl); (case hg => rfl); (case hr => first | (go_simp; done) | (go_simp; rfl)); intro gb244 hg w22 hbox hb; have n0_ := qM (Kd.R_below (by (with_reducible repeat (first | apply Kd.R_alloc | apply Kd.R_drewN | apply Kd.R_drew)); exact HO240.out) hb); have n1_ := qM (qP qF hb); have n2_ := qM (hbox); have n3_ := qM ((by rw [hg]; exact (qZ qF) : w.heap.size ≤ gb244)); have n4_ := qM ((by rw [hg]; exact (qZ qF) : w.heap.size ≤ gb244)); clear HO240; clear HB; have HO240 := n0_; have HB := n1_; have BK244 := n2_; have GW244 := n3_; have GE244 := n4_; clear n0_ n1_ n2_ n3_ n4_; clear hb hbox hg; obtain ⟨hcz23_0, hcz23_1, hcz23_2, hfz23_0, hfz23_1, hfz23_2⟩ := bx3 BK244.out; obtain ⟨Ao24, co24, eo24⟩ := Kd.R_slice HO240.out; subst eo24) | ((with_reducible refine gate_callee (f := 12) rfl ?_); refine goesL_ (some 27) rfl rfl Tryd.func12 (by kernel_rfl) rfl #[.slice Ao24 t238.length co24] rfl (by (try simp only [List.map_toArray, List.map_cons, List.map_nil]); first | done | rfl | (simp only [List.length_drop, List.length_take]; rfl)) ?_; (with_reducible refine (speclex_Show.calls _ _ t238 t246 _ ?side3 ?side1 ?side2 A7.out).mono ?_); (case side1 => refine (Kd.R_reads' (e := 32) (base := w.heap.size) (ok := fun k_ => True) (n := t238.length) (c := co24) ?_).2.2; exact (by (with_reducible repeat (first | apply Kd.R_alloc | apply Kd.R_drewN | apply Kd.R_drew)); exact (Kd.R_mono (Kd.R_far (p := ⟨gb244, 2, none⟩) (Kd.R_far (p := ⟨gb244, 1, none⟩) (Kd.R_far (p := ⟨gb244, 0, none⟩) (Kd.R_types HO240.out BK244.out (by decide)) (fun _ hk => hk.2) (.int .i64 t241)) (fun _ hk => hk.2) (.int .i64 t242)) (fun _ hk => hk.2) (.string t243)) (fun _ h_ => h_.1)))); (case side2 => exact (Kd.R_reads' HO240.out).2.1); (case side3 => exact GW.below HGW.out qF); rintro e w25 ⟨rfl, hb⟩; refine ⟨_, rfl, ?_⟩; have n0_ := qM (Kd.R_below (by (with_reducible repeat (first | apply Kd.R_alloc | apply Kd.R_drewN | apply Kd.R_drew)); exact (Kd.R_mono (Kd.R_far (p := ⟨gb244, 2, none⟩) (Kd.R_far (p := ⟨gb244, 1, none⟩) (Kd.R_far (p := ⟨gb244, 0, none⟩) (Kd.R_types HO240.out BK244.out (by decide)) (fun _ hk => hk.2) (.int .i64 t241)) (fun _ hk => hk.2) (.int .i64 t242)) (fun _ hk => hk.2) (.string t243)) (fun _ h_ => h_.1))) hb); have n1_ := qM (qb (g := gb244) (o := .cells #[.int .i64 t241, .int .i64 t242, .string t243] 26 (0, 0)) (by (with_reducible repeat (first | refine qn ?_ _ | refine qd ?_ | refine qa ?_ _)); refine blk_put (cs := #[.int .i64 t241, .int .i64 t242, .string (⟨#[]⟩ : ByteArray)]) ?_ 2 _ rfl; (with_reducible repeat (first | refine qn ?_ _ | refine qd ?_ | refine qa ?_ _)); refine blk_put (cs := #[.int .i64 t241, .int .i64 0, .string (⟨#[]⟩ : ByteArray)]) ?_ 1 _ rfl; (with_reducible repeat (first | refine qn ?_ _ | refine qd ?_ | refine qa ?_ _)); refine blk_put (cs := #[.int .i64 0, .int .i64 0, .string (⟨#[]⟩ : ByteArray)]) ?_ 0 _ rfl; (with_reducible repeat (first | refine qn ?_ _ | refine qd ?_ | refine qa ?_ _)); exact BK244.out) hb); have n2_ := qM (qP qF hb); clear HO240; clear BK244; clear HB; have HO240 := n0_; have BK244 := n1_; have HB := n2_; clear n0_ n1_ n2_; (try clear hb); (try clear hb2); (try clear hk); (try clear hi)) | ((with_reducible refine gate_callee (f := 9) rfl ?_); refine goesL_ (some 34) rfl rfl Tryd.func9 (by kernel_rfl) rfl #[.string t246] rfl (by (try simp only [List.map_toArray, List.map_cons, List.map_nil]); first | done | rfl | (simp only [List.length_drop, List.length_take]; rfl)) ?_; (with_reducible refine (speclex_Scan.calls k t246 t248 (0 : Int) (0 : Int) (⟨#[]⟩ : ByteArray) _ ?side1 A16.out).mono ?_); (case side1 => exact GW.below HGW.out qF); rintro e w26 ⟨v249, rfl, ho0, hb⟩; refine ⟨_, rfl, ?_⟩; have n0_ := qM (Kd.R_elder' (by (with_reducible repeat (first | apply Kd.R_alloc | apply Kd.R_drewN | apply Kd.R_drew)); exact HO240.out) (Kd.R_base ho0) hb); have n1_ := qM (Kd.R_lower (Kd.R_new' ho0 (Kd.R_lt (by (with_reducible repeat (first | apply Kd.R_alloc | apply Kd.R_drewN | apply Kd.R_drew)); exact HO240.out))) (qZ qF)); have n2_ := qM (qb (g := gb244) qK hb); have n3_ := qM (qP qF hb); clear HO240; clear BK244; clear HB; have HO240 := n0_; have HO250 := n1_; have BK244 := n2_; have HB := n3_; clear n0_ n1_ n2_ n3_; (try clear hb); (try clear hb2); (try clear hk); (try clear hi); (try clear ho0)) | ((with_reducible refine gate_dst (N := 7) rfl ?_); refine box_event ?hg (N := 7) ?hd (cs := #[.int .i64 0, .int .i64 0, .string (⟨#[]⟩ : ByteArray)]) (t := 26) ?hr ?_; (case hd => rfl); (case hg => rfl); (case hr => first | (go_simp; done) | (go_simp; rfl)); intro gb254 hg w27 hbox hb; have n0_ := qM (Kd.R_below (by (with_reducible repeat (first | apply Kd.R_alloc | apply Kd.R_drewN | apply Kd.R_drew)); exact HO240.out) hb); have n1_ := qM (Kd.R_below (by (with_reducible repeat (first | apply Kd.R_alloc | apply Kd.R_drewN | apply Kd.R_drew)); exact HO250.out) hb); have n2_ := qM (qb (g := gb244) qK hb); have n3_ := qM (qP qF hb); have n4_ := qM (hbox); have n5_ := qM ((by rw [hg]; exact (qZ qF) : w.heap.size ≤ gb254)); have n6_ := qM ((by rw [hg]; exact (qZ qF) : w.heap.size ≤ gb254)); have n7_ := qM ((by rw [hg]; exact Nat.ne_of_lt (ql (g := gb244) qK) : gb244 ≠ gb254)); have n8_ := qM ((by rw [hg]; exact Nat.ne_of_gt (ql (g := gb244) qK) : gb254 ≠ gb244)); clear HO240; clear HO250; clear BK244; clear HB; have HO240 := n0_; have HO250 := n1_; have BK244 := n2_; have HB := n3_; have BK254 := n4_; have GW254 := n5_; have GE254 := n6_; have NB244_254 := n7_; have NB254_244 := n8_; clear n0_ n1_ n2_ n3_ n4_ n5_ n6_ n7_ n8_; clear hb hbox hg; have hnb28 := NB254_244.out; have hnc28 := NB244_254.out; obtain ⟨hcz29_0, hcz29_1, hcz29_2, hfz29_0, hfz29_1, hfz29_2⟩ := bx3 BK254.out; obtain ⟨Ao30, co30, eo30⟩ := Kd.R_slice HO250.out; subst eo30) | (go_at_call 11; (with_reducible refine (arboristlaw11_same.calls k _ _ t238 _ _ t248 true _ ?side1 ?side2 ?side3 ?side4 A18.out).mono ?_); (case side1 => refine (Kd.R_reads' (e := 32) (base := w.heap.size) (ok := fun k_ => (True ∧ some k_ ≠ (.slice Ao30 t248.length co30 : Value).ownBlock)) (n := t238.length) (c := co24) ?_).2.2; exact (by (with_reducible repeat (first | apply Kd.R_alloc | apply Kd.R_drewN | apply Kd.R_drew)); exact (Kd.R_mono (Kd.R_far (p := ⟨gb254, 2, none⟩) (Kd.R_far (p := ⟨gb254, 1, none⟩) (Kd.R_far (p := ⟨gb254, 0, none⟩) (Kd.R_types HO240.out BK254.out (by decide)) (fun _ hk => hk.2) (.int .i64 (0 : Int))) (fun _ hk => hk.2) (.int .i64 (0 : Int))) (fun _ hk => hk.2) (.string (⟨#[]⟩ : ByteArray))) (fun _ h_ => h_.1)))); (case side2 => exact (Kd.R_reads' HO240.out).2.1); (case side3 => refine (Kd.R_reads' (e := 32) (base := w.heap.size) (ok := fun k_ => (True ∧ some k_ ≠ (.slice Ao24 t238.length co24 : Value).ownBlock)) (n := t248.length) (c := co30) ?_).2.2; exact (by (with_reducible repeat (first | apply Kd.R_alloc | apply Kd.R_drewN | apply Kd.R_drew)); exact (Kd.R_mono (Kd.R_far (p := ⟨gb254, 2, none⟩) (Kd.R_far (p := ⟨gb254, 1, none⟩) (Kd.R_far (p := ⟨gb254, 0, none⟩) (Kd.R_types HO250.out BK254.out (by decide)) (fun _ hk => hk.2) (.int .i64 (0 : Int))) (fun _ hk => hk.2) (.int .i64 (0 : Int))) (fun _ hk => hk.2) (.string (⟨#[]⟩ : ByteArray))) (fun _ h_ => h_.1)))); (case side4 => exact (Kd.R_reads' HO250.out).2.1); rintro e w' ⟨rfl, ⟨nd, rfl⟩⟩) | (go_at_call 8; (with_reducible refine (arboristlaw11_knows.calls k  t256 _ ?side1 A20.out).mono ?_); (case side1 => exact GW.below HGW.out qF); rintro e w31 ⟨rfl, hb⟩; have n0_ := qM (Kd.R_below (by (with_reducible repeat (first | apply Kd.R_alloc | apply Kd.R_drewN | apply Kd.R_drew)); exact (Kd.R_mono (Kd.R_far (p := ⟨gb254, 2, none⟩) (Kd.R_far (p := ⟨gb254, 1, none⟩) (Kd.R_far (p := ⟨gb254, 0, none⟩) (Kd.R_types HO240.out BK254.out (by decide)) (fun _ hk => hk.2) (.int .i64 (0 : Int))) (fun _ hk => hk.2) (.int .i64 (0 : Int))) (fun _ hk => hk.2) (.string (⟨#[]⟩ : ByteArray))) (fun _ h_ => h_.1))) hb); have n1_ := qM (Kd.R_below (by (with_reducible repeat (first | apply Kd.R_alloc | apply Kd.R_drewN | apply Kd.R_drew)); exact (Kd.R_mono (Kd.R_far (p := ⟨gb254, 2, none⟩) (Kd.R_far (p := ⟨gb254, 1, none⟩) (Kd.R_far (p := ⟨gb254, 0, none⟩) (Kd.R_types HO250.out BK254.out (by decide)) (fun _ hk => hk.2) (.int .i64 (0 : Int))) (fun _ hk => hk.2) (.int .i64 (0 : Int))) (fun _ hk => hk.2) (.string (⟨#[]⟩ : ByteArray))) (fun _ h_ => h_.1))) hb); have n2_ := qM (qb (g := gb244) (o := .cells #[.int .i64 t241, .int .i64 t242, .string t243] 26 (0, 0)) (by (with_reducible repeat (first | refine qn ?_ _ | refine qd ?_ | refine qa ?_ _)); refine qf ?_ NB244_254.out _; (with_reducible repeat (first | refine qn ?_ _ | refine qd ?_ | refine qa ?_ _)); refine qf ?_ NB244_254.out _; (with_reducible repeat (first | refine qn ?_ _ | refine qd ?_ | refine qa ?_ _)); refine qf ?_ NB244_254.out _; (with_reducible repeat (first | refine qn ?_ _ | refine qd ?_ | refine qa ?_ _)); exact BK244.out) hb); have n3_ := qM (qb (g := gb254) (o := .cells #[.int .i64 (0 : Int), .int .i64 (0 : Int), .string (⟨#[]⟩ : ByteArray)] 26 (0, 0)) (by (with_reducible repeat (first | refine qn ?_ _ | refine qd ?_ | refine qa ?_ _)); refine blk_put (cs := #[.int .i64 (0 : Int), .int .i64 (0 : Int), .string (⟨#[]⟩ : ByteArray)]) ?_ 2 _ rfl; (with_reducible repeat (first | refine qn ?_ _ | refine qd ?_ | refine qa ?_ _)); refine blk_put (cs := #[.int .i64 (0 : Int), .int .i64 0, .string (⟨#[]⟩ : ByteArray)]) ?_ 1 _ rfl; (with_reducible repeat (first | refine qn ?_ _ | refine qd ?_ | refine qa ?_ _)); refine blk_put (cs := #[.int .i64 0, .int .i64 0, .string (⟨#[]⟩ : ByteArray)]) ?_ 0 _ rfl; (with_reducible repeat (first | refine qn ?_ _ | refine qd ?_ | refine qa ?_ _)); exact BK254.out) hb); have n4_ := qM (qP qF hb); clear HO240; clear HO250; clear BK244; clear BK254; clear HB; have HO240 := n0_; have HO250 := n1_; have BK244 := n2_; have BK254 := n3_; have HB := n4_; clear n0_ n1_ n2_ n3_ n4_; (try clear hb); (try clear hb2); (try clear hk); (try clear hi)))
      (go_ret); (exact ⟨qE, qF⟩)
     ·replace c19 := Bool.eq_false_iff.mpr c19
      subst c19; (have H1 : (some false) = some r := by rw [if_neg (show ¬ (false = true) by decide)] at H; exact H); clear H; (have H := H1); clear H1; (obtain rfl := Option.some.inj H); (go_enter Tryd.func5, Tryd.ntmps5)
      go_wp2_with (first | ((with_reducible refine gate_callee (f := 9) rfl ?_); refine goesL_ (some 14) rfl rfl Tryd.func9 (by kernel_rfl) rfl #[.string a0] rfl (by (try simp only [List.map_toArray, List.map_cons, List.map_nil]); first | done | rfl | (simp only [List.length_drop, List.length_take]; rfl)) ?_; (with_reducible refine (speclex_Scan.calls k a0 t238 t241 t242 t243 _ ?side1 A5.out).mono ?_); (case side1 => exact GW.below HGW.out qF); rintro e w32 ⟨v239, rfl, ho0, hb⟩; refine ⟨_, rfl, ?_⟩; have n0_ := qM (Kd.R_lower ho0 (qZ qF)); have n1_ := qM (qP qF hb); clear HB; have HO240 := n0_; have HB := n1_; clear n0_ n1_; (try clear hb); (try clear hb2); (try clear hk); (try clear hi); (try clear ho0)) | ((with_reducible refine gate_dst (N := 4) rfl ?_); refine box_event ?hg (N := 4) ?hd (cs := #[.int .i64 0, .int .i64 0, .string (⟨#[]⟩ : ByteArray)]) (t := 26) ?hr ?_; (case hd => rfl); (case hg => rfl); (case hr => first | (go_simp; done) | (go_simp; rfl)); intro gb244 hg w33 hbox hb; have n0_ := qM (Kd.R_below (by (with_reducible repeat (first | apply Kd.R_alloc | apply Kd.R_drewN | apply Kd.R_drew)); exact HO240.out) hb); have n1_ := qM (qP qF hb); have n2_ := qM (hbox); have n3_ := qM ((by rw [hg]; exact (qZ qF) : w.heap.size ≤ gb244)); have n4_ := qM ((by rw [hg]; exact (qZ qF) : w.heap.size ≤ gb244)); clear HO240; clear HB; have HO240 := n0_; have HB := n1_; have BK244 := n2_; have GW244 := n3_; have GE244 := n4_; clear n0_ n1_ n2_ n3_ n4_; clear hb hbox hg; obtain ⟨hcz34_0, hcz34_1, hcz34_2, hfz34_0, hfz34_1, hfz34_2⟩ := bx3 BK244.out; obtain ⟨Ao35, co35, eo35⟩ := Kd.R_slice HO240.out; subst eo35) | ((with_reducible refine gate_callee (f := 12) rfl ?_); refine goesL_ (some 27) rfl rfl Tryd.func12 (by kernel_rfl) rfl #[.slice Ao35 t238.length co35] rfl (by (try simp only [List.map_toArray, List.map_cons, List.map_nil]); first | done | rfl | (simp only [List.length_drop, List.length_take]; rfl)) ?_; (with_reducible refine (speclex_Show.calls _ _ t238 t246 _ ?side3 ?side1 ?side2 A7.out).mono ?_); (case side1 => refine (Kd.R_reads' (e := 32) (base := w.heap.size) (ok := fun k_ => True) (n := t238.length) (c := co35) ?_).2.2; exact (by (with_reducible repeat (first | apply Kd.R_alloc | apply Kd.R_drewN | apply Kd.R_drew)); exact (Kd.R_mono (Kd.R_far (p := ⟨gb244, 2, none⟩) (Kd.R_far (p := ⟨gb244, 1, none⟩) (Kd.R_far (p := ⟨gb244, 0, none⟩) (Kd.R_types HO240.out BK244.out (by decide)) (fun _ hk => hk.2) (.int .i64 t241)) (fun _ hk => hk.2) (.int .i64 t242)) (fun _ hk => hk.2) (.string t243)) (fun _ h_ => h_.1)))); (case side2 => exact (Kd.R_reads' HO240.out).2.1); (case side3 => exact GW.below HGW.out qF); rintro e w36 ⟨rfl, hb⟩; refine ⟨_, rfl, ?_⟩; have n0_ := qM (Kd.R_below (by (with_reducible repeat (first | apply Kd.R_alloc | apply Kd.R_drewN | apply Kd.R_drew)); exact (Kd.R_mono (Kd.R_far (p := ⟨gb244, 2, none⟩) (Kd.R_far (p := ⟨gb244, 1, none⟩) (Kd.R_far (p := ⟨gb244, 0, none⟩) (Kd.R_types HO240.out BK244.out (by decide)) (fun _ hk => hk.2) (.int .i64 t241)) (fun _ hk => hk.2) (.int .i64 t242)) (fun _ hk => hk.2) (.string t243)) (fun _ h_ => h_.1))) hb); have n1_ := qM (qb (g := gb244) (o := .cells #[.int .i64 t241, .int .i64 t242, .string t243] 26 (0, 0)) (by (with_reducible repeat (first | refine qn ?_ _ | refine qd ?_ | refine qa ?_ _)); refine blk_put (cs := #[.int .i64 t241, .int .i64 t242, .string (⟨#[]⟩ : ByteArray)]) ?_ 2 _ rfl; (with_reducible repeat (first | refine qn ?_ _ | refine qd ?_ | refine qa ?_ _)); refine blk_put (cs := #[.int .i64 t241, .int .i64 0, .string (⟨#[]⟩ : ByteArray)]) ?_ 1 _ rfl; (with_reducible repeat (first | refine qn ?_ _ | refine qd ?_ | refine qa ?_ _)); refine blk_put (cs := #[.int .i64 0, .int .i64 0, .string (⟨#[]⟩ : ByteArray)]) ?_ 0 _ rfl; (with_reducible repeat (first | refine qn ?_ _ | refine qd ?_ | refine qa ?_ _)); exact BK244.out) hb); have n2_ := qM (qP qF hb); clear HO240; clear BK244; clear HB; have HO240 := n0_; have BK244 := n1_; have HB := n2_; clear n0_ n1_ n2_; (try clear hb); (try clear hb2); (try clear hk); (try clear hi)) | ((with_reducible refine gate_callee (f := 9) rfl ?_); refine goesL_ (some 34) rfl rfl Tryd.func9 (by kernel_rfl) rfl #[.string t246] rfl (by (try simp only [List.map_toArray, List.map_cons, List.map_nil]); first | done | rfl | (simp only [List.length_drop, List.length_take]; rfl)) ?_; (with_reducible refine (speclex_Scan.calls k t246 t248 (0 : Int) (0 : Int) (⟨#[]⟩ : ByteArray) _ ?side1 A16.out).mono ?_); (case side1 => exact GW.below HGW.out qF); rintro e w37 ⟨v249, rfl, ho0, hb⟩; refine ⟨_, rfl, ?_⟩; have n0_ := qM (Kd.R_elder' (by (with_reducible repeat (first | apply Kd.R_alloc | apply Kd.R_drewN | apply Kd.R_drew)); exact HO240.out) (Kd.R_base ho0) hb); have n1_ := qM (Kd.R_lower (Kd.R_new' ho0 (Kd.R_lt (by (with_reducible repeat (first | apply Kd.R_alloc | apply Kd.R_drewN | apply Kd.R_drew)); exact HO240.out))) (qZ qF)); have n2_ := qM (qb (g := gb244) qK hb); have n3_ := qM (qP qF hb); clear HO240; clear BK244; clear HB; have HO240 := n0_; have HO250 := n1_; have BK244 := n2_; have HB := n3_; clear n0_ n1_ n2_ n3_; (try clear hb); (try clear hb2); (try clear hk); (try clear hi); (try clear ho0)) | ((with_reducible refine gate_dst (N := 7) rfl ?_); refine box_event ?hg (N := 7) ?hd (cs := #[.int .i64 0, .int .i64 0, .string (⟨#[]⟩ : ByteArray)]) (t := 26) ?hr ?_; (case hd => rfl); (case hg => rfl); (case hr => first | (go_simp; done) | (go_simp; rfl)); intro gb254 hg w38 hbox hb; have n0_ := qM (Kd.R_below (by (with_reducible repeat (first | apply Kd.R_alloc | apply Kd.R_drewN | apply Kd.R_drew)); exact HO240.out) hb); have n1_ := qM (Kd.R_below (by (with_reducible repeat (first | apply Kd.R_alloc | apply Kd.R_drewN | apply Kd.R_drew)); exact HO250.out) hb); have n2_ := qM (qb (g := gb244) qK hb); have n3_ := qM (qP qF hb); have n4_ := qM (hbox); have n5_ := qM ((by rw [hg]; exact (qZ qF) : w.heap.size ≤ gb254)); have n6_ := qM ((by rw [hg]; exact (qZ qF) : w.heap.size ≤ gb254)); have n7_ := qM ((by rw [hg]; exact Nat.ne_of_lt (ql (g := gb244) qK) : gb244 ≠ gb254)); have n8_ := qM ((by rw [hg]; exact Nat.ne_of_gt (ql (g := gb244) qK) : gb254 ≠ gb244)); clear HO240; clear HO250; clear BK244; clear HB; have HO240 := n0_; have HO250 := n1_; have BK244 := n2_; have HB := n3_; have BK254 := n4_; have GW254 := n5_; have GE254 := n6_; have NB244_254 := n7_; have NB254_244 := n8_; clear n0_ n1_ n2_ n3_ n4_ n5_ n6_ n7_ n8_; clear hb hbox hg; have hnb39 := NB254_244.out; have hnc39 := NB244_254.out; obtain ⟨hcz40_0, hcz40_1, hcz40_2, hfz40_0, hfz40_1, hfz40_2⟩ := bx3 BK254.out; obtain ⟨Ao41, co41, eo41⟩ := Kd.R_slice HO250.out; subst eo41) | (go_at_call 11; (with_reducible refine (arboristlaw11_same.calls k _ _ t238 _ _ t248 false _ ?side1 ?side2 ?side3 ?side4 A18.out).mono ?_); (case side1 => refine (Kd.R_reads' (e := 32) (base := w.heap.size) (ok := fun k_ => (True ∧ some k_ ≠ (.slice Ao41 t248.length co41 : Value).ownBlock)) (n := t238.length) (c := co35) ?_).2.2; exact (by (with_reducible repeat (first | apply Kd.R_alloc | apply Kd.R_drewN | apply Kd.R_drew)); exact (Kd.R_mono (Kd.R_far (p := ⟨gb254, 2, none⟩) (Kd.R_far (p := ⟨gb254, 1, none⟩) (Kd.R_far (p := ⟨gb254, 0, none⟩) (Kd.R_types HO240.out BK254.out (by decide)) (fun _ hk => hk.2) (.int .i64 (0 : Int))) (fun _ hk => hk.2) (.int .i64 (0 : Int))) (fun _ hk => hk.2) (.string (⟨#[]⟩ : ByteArray))) (fun _ h_ => h_.1)))); (case side2 => exact (Kd.R_reads' HO240.out).2.1); (case side3 => refine (Kd.R_reads' (e := 32) (base := w.heap.size) (ok := fun k_ => (True ∧ some k_ ≠ (.slice Ao35 t238.length co35 : Value).ownBlock)) (n := t248.length) (c := co41) ?_).2.2; exact (by (with_reducible repeat (first | apply Kd.R_alloc | apply Kd.R_drewN | apply Kd.R_drew)); exact (Kd.R_mono (Kd.R_far (p := ⟨gb254, 2, none⟩) (Kd.R_far (p := ⟨gb254, 1, none⟩) (Kd.R_far (p := ⟨gb254, 0, none⟩) (Kd.R_types HO250.out BK254.out (by decide)) (fun _ hk => hk.2) (.int .i64 (0 : Int))) (fun _ hk => hk.2) (.int .i64 (0 : Int))) (fun _ hk => hk.2) (.string (⟨#[]⟩ : ByteArray))) (fun _ h_ => h_.1)))); (case side4 => exact (Kd.R_reads' HO250.out).2.1); rintro e w' ⟨rfl, ⟨nd, rfl⟩⟩))
      (go_ret); (exact ⟨qE, qF⟩)
    ·rw [if_neg c17] at H
     (have c17n := diag0n c17); (have c17b0 : (t251 == 0 && (t252 == 0 && (t253.toList == ([] : List UInt8)))) = false := by simpa using c17); ((try (have c17b1 : decide (t251 = 0 && (t252 == 0 && (t253.toList == ([] : List UInt8)))) = false := by simpa using c17))); ((try (have c17b2 : (t251 == 0 && (t252 == 0 && (t253.toList == ([] : List UInt8)))) = false := by simpa using c17))); ((try (have c17b3 : ¬ (t251 = 0 && (t252 == 0 && (t253.toList == ([] : List UInt8)))) := by simpa using c17))); clear c17; (obtain rfl := Option.some.inj H); (go_enter Tryd.func5, Tryd.ntmps5)
     go_wp2_with (first | ((with_reducible refine gate_callee (f := 9) rfl ?_); refine goesL_ (some 14) rfl rfl Tryd.func9 (by kernel_rfl) rfl #[.string a0] rfl (by (try simp only [List.map_toArray, List.map_cons, List.map_nil]); first | done | rfl | (simp only [List.length_drop, List.length_take]; rfl)) ?_; (with_reducible refine (speclex_Scan.calls k a0 t238 t241 t242 t243 _ ?side1 A5.out).mono ?_); (case side1 => exact GW.below HGW.out qF); rintro e w42 ⟨v239, rfl, ho0, hb⟩; refine ⟨_, rfl, ?_⟩; have n0_ := qM (Kd.R_lower ho0 (qZ qF)); have n1_ := qM (qP qF hb); clear HB; have HO240 := n0_; have HB := n1_; clear n0_ n1_; (try clear hb); (try clear hb2); (try clear hk); (try clear hi); (try clear ho0)) | ((with_reducible refine gate_dst (N := 4) rfl ?_); refine box_event ?hg (N := 4) ?hd (cs := #[.int .i64 0, .int .i64 0, .string (⟨#[]⟩ : ByteArray)]) (t := 26) ?hr ?_; (case hd => rfl); (case hg => rfl); (case hr => first | (go_simp; done) | (go_simp; rfl)); intro gb244 hg w43 hbox hb; have n0_ := qM (Kd.R_below (by (with_reducible repeat (first | apply Kd.R_alloc | apply Kd.R_drewN | apply Kd.R_drew)); exact HO240.out) hb); have n1_ := qM (qP qF hb); have n2_ := qM (hbox); have n3_ := qM ((by rw [hg]; exact (qZ qF) : w.heap.size ≤ gb244)); have n4_ := qM ((by rw [hg]; exact (qZ qF) : w.heap.size ≤ gb244)); clear HO240; clear HB; have HO240 := n0_; have HB := n1_; have BK244 := n2_; have GW244 := n3_; have GE244 := n4_; clear n0_ n1_ n2_ n3_ n4_; clear hb hbox hg; obtain ⟨hcz44_0, hcz44_1, hcz44_2, hfz44_0, hfz44_1, hfz44_2⟩ := bx3 BK244.out; obtain ⟨Ao45, co45, eo45⟩ := Kd.R_slice HO240.out; subst eo45) | ((with_reducible refine gate_callee (f := 12) rfl ?_); refine goesL_ (some 27) rfl rfl Tryd.func12 (by kernel_rfl) rfl #[.slice Ao45 t238.length co45] rfl (by (try simp only [List.map_toArray, List.map_cons, List.map_nil]); first | done | rfl | (simp only [List.length_drop, List.length_take]; rfl)) ?_; (with_reducible refine (speclex_Show.calls _ _ t238 t246 _ ?side3 ?side1 ?side2 A7.out).mono ?_); (case side1 => refine (Kd.R_reads' (e := 32) (base := w.heap.size) (ok := fun k_ => True) (n := t238.length) (c := co45) ?_).2.2; exact (by (with_reducible repeat (first | apply Kd.R_alloc | apply Kd.R_drewN | apply Kd.R_drew)); exact (Kd.R_mono (Kd.R_far (p := ⟨gb244, 2, none⟩) (Kd.R_far (p := ⟨gb244, 1, none⟩) (Kd.R_far (p := ⟨gb244, 0, none⟩) (Kd.R_types HO240.out BK244.out (by decide)) (fun _ hk => hk.2) (.int .i64 t241)) (fun _ hk => hk.2) (.int .i64 t242)) (fun _ hk => hk.2) (.string t243)) (fun _ h_ => h_.1)))); (case side2 => exact (Kd.R_reads' HO240.out).2.1); (case side3 => exact GW.below HGW.out qF); rintro e w46 ⟨rfl, hb⟩; refine ⟨_, rfl, ?_⟩; have n0_ := qM (Kd.R_below (by (with_reducible repeat (first | apply Kd.R_alloc | apply Kd.R_drewN | apply Kd.R_drew)); exact (Kd.R_mono (Kd.R_far (p := ⟨gb244, 2, none⟩) (Kd.R_far (p := ⟨gb244, 1, none⟩) (Kd.R_far (p := ⟨gb244, 0, none⟩) (Kd.R_types HO240.out BK244.out (by decide)) (fun _ hk => hk.2) (.int .i64 t241)) (fun _ hk => hk.2) (.int .i64 t242)) (fun _ hk => hk.2) (.string t243)) (fun _ h_ => h_.1))) hb); have n1_ := qM (qb (g := gb244) (o := .cells #[.int .i64 t241, .int .i64 t242, .string t243] 26 (0, 0)) (by (with_reducible repeat (first | refine qn ?_ _ | refine qd ?_ | refine qa ?_ _)); refine blk_put (cs := #[.int .i64 t241, .int .i64 t242, .string (⟨#[]⟩ : ByteArray)]) ?_ 2 _ rfl; (with_reducible repeat (first | refine qn ?_ _ | refine qd ?_ | refine qa ?_ _)); refine blk_put (cs := #[.int .i64 t241, .int .i64 0, .string (⟨#[]⟩ : ByteArray)]) ?_ 1 _ rfl; (with_reducible repeat (first | refine qn ?_ _ | refine qd ?_ | refine qa ?_ _)); refine blk_put (cs := #[.int .i64 0, .int .i64 0, .string (⟨#[]⟩ : ByteArray)]) ?_ 0 _ rfl; (with_reducible repeat (first | refine qn ?_ _ | refine qd ?_ | refine qa ?_ _)); exact BK244.out) hb); have n2_ := qM (qP qF hb); clear HO240; clear BK244; clear HB; have HO240 := n0_; have BK244 := n1_; have HB := n2_; clear n0_ n1_ n2_; (try clear hb); (try clear hb2); (try clear hk); (try clear hi)) | ((with_reducible refine gate_callee (f := 9) rfl ?_); refine goesL_ (some 34) rfl rfl Tryd.func9 (by kernel_rfl) rfl #[.string t246] rfl (by (try simp only [List.map_toArray, List.map_cons, List.map_nil]); first | done | rfl | (simp only [List.length_drop, List.length_take]; rfl)) ?_; (with_reducible refine (speclex_Scan.calls k t246 t248 t251 t252 t253 _ ?side1 A16.out).mono ?_); (case side1 => exact GW.below HGW.out qF); rintro e w47 ⟨v249, rfl, ho0, hb⟩; refine ⟨_, rfl, ?_⟩; have n0_ := qM (Kd.R_elder' (by (with_reducible repeat (first | apply Kd.R_alloc | apply Kd.R_drewN | apply Kd.R_drew)); exact HO240.out) (Kd.R_base ho0) hb); have n1_ := qM (Kd.R_lower (Kd.R_new' ho0 (Kd.R_lt (by (with_reducible repeat (first | apply Kd.R_alloc | apply Kd.R_drewN | apply Kd.R_drew)); exact HO240.out))) (qZ qF)); have n2_ := qM (qb (g := gb244) qK hb); have n3_ := qM (qP qF hb); clear HO240; clear BK244; clear HB; have HO240 := n0_; have HO250 := n1_; have BK244 := n2_; have HB := n3_; clear n0_ n1_ n2_ n3_; (try clear hb); (try clear hb2); (try clear hk); (try clear hi); (try clear ho0)) | ((with_reducible refine gate_dst (N := 7) rfl ?_); refine box_event ?hg (N := 7) ?hd (cs := #[.int .i64 0, .int .i64 0, .string (⟨#[]⟩ : ByteArray)]) (t := 26) ?hr ?_; (case hd => rfl); (case hg => rfl); (case hr => first | (go_simp; done) | (go_simp; rfl)); intro gb254 hg w48 hbox hb; have n0_ := qM (Kd.R_below (by (with_reducible repeat (first | apply Kd.R_alloc | apply Kd.R_drewN | apply Kd.R_drew)); exact HO240.out) hb); have n1_ := qM (Kd.R_below (by (with_reducible repeat (first | apply Kd.R_alloc | apply Kd.R_drewN | apply Kd.R_drew)); exact HO250.out) hb); have n2_ := qM (qb (g := gb244) qK hb); have n3_ := qM (qP qF hb); have n4_ := qM (hbox); have n5_ := qM ((by rw [hg]; exact (qZ qF) : w.heap.size ≤ gb254)); have n6_ := qM ((by rw [hg]; exact (qZ qF) : w.heap.size ≤ gb254)); have n7_ := qM ((by rw [hg]; exact Nat.ne_of_lt (ql (g := gb244) qK) : gb244 ≠ gb254)); have n8_ := qM ((by rw [hg]; exact Nat.ne_of_gt (ql (g := gb244) qK) : gb254 ≠ gb244)); clear HO240; clear HO250; clear BK244; clear HB; have HO240 := n0_; have HO250 := n1_; have BK244 := n2_; have HB := n3_; have BK254 := n4_; have GW254 := n5_; have GE254 := n6_; have NB244_254 := n7_; have NB254_244 := n8_; clear n0_ n1_ n2_ n3_ n4_ n5_ n6_ n7_ n8_; clear hb hbox hg; have hnb49 := NB254_244.out; have hnc49 := NB244_254.out; obtain ⟨hcz50_0, hcz50_1, hcz50_2, hfz50_0, hfz50_1, hfz50_2⟩ := bx3 BK254.out))
     (go_ret); (exact ⟨qE, qF⟩)
  ·rw [if_neg c6] at H
   (have c6b0 : (t241 == 0) = false := beq_eq_false_iff_ne.mpr c6); (have c6b1 : (t241 != 0) = true := bne_iff_ne.mpr c6); (by_cases c51 : (t238.length : Int) = 0)
   ·rw [if_pos c51] at H
    (have c51b0 : ((t238.length : Int) == 0) = true := beq_iff_eq.mpr c51); (have c51b1 : ((t238.length : Int) != 0) = false := bne_eq_false_iff_eq.mpr c51); clear c51; (replace H := Option.bind_eq_some_iff.mp H); (obtain ⟨t245, A520, H⟩ := H); (replace H : (some t245) = some r := H); (have A52 := qM A520); clear A520; (obtain rfl := Option.some.inj H); (go_enter Tryd.func5, Tryd.ntmps5)
    go_wp2_with (first | ((with_reducible refine gate_callee (f := 9) rfl ?_); refine goesL_ (some 14) rfl rfl Tryd.func9 (by kernel_rfl) rfl #[.string a0] rfl (by (try simp only [List.map_toArray, List.map_cons, List.map_nil]); first | done | rfl | (simp only [List.length_drop, List.length_take]; rfl)) ?_; (with_reducible refine (speclex_Scan.calls k a0 t238 t241 t242 t243 _ ?side1 A5.out).mono ?_); (case side1 => exact GW.below HGW.out qF); rintro e w53 ⟨v239, rfl, ho0, hb⟩; refine ⟨_, rfl, ?_⟩; have n0_ := qM (Kd.R_lower ho0 (qZ qF)); have n1_ := qM (qP qF hb); clear HB; have HO240 := n0_; have HB := n1_; clear n0_ n1_; (try clear hb); (try clear hb2); (try clear hk); (try clear hi); (try clear ho0)) | ((with_reducible refine gate_dst (N := 4) rfl ?_); refine box_event ?hg (N := 4) ?hd (cs := #[.int .i64 0, .int .i64 0, .string (⟨#[]⟩ : ByteArray)]) (t := 26) ?hr ?_; (case hd => rfl); (case hg => rfl); (case hr => first | (go_simp; done) | (go_simp; rfl)); intro gb244 hg w54 hbox hb; have n0_ := qM (Kd.R_below (by (with_reducible repeat (first | apply Kd.R_alloc | apply Kd.R_drewN | apply Kd.R_drew)); exact HO240.out) hb); have n1_ := qM (qP qF hb); have n2_ := qM (hbox); have n3_ := qM ((by rw [hg]; exact (qZ qF) : w.heap.size ≤ gb244)); have n4_ := qM ((by rw [hg]; exact (qZ qF) : w.heap.size ≤ gb244)); clear HO240; clear HB; have HO240 := n0_; have HB := n1_; have BK244 := n2_; have GW244 := n3_; have GE244 := n4_; clear n0_ n1_ n2_ n3_ n4_; clear hb hbox hg; obtain ⟨hcz55_0, hcz55_1, hcz55_2, hfz55_0, hfz55_1, hfz55_2⟩ := bx3 BK244.out; obtain ⟨Ao56, co56, eo56⟩ := Kd.R_slice HO240.out; subst eo56) | (go_at_call 8; (with_reducible refine (arboristlaw11_knows.calls k  t245 _ ?side1 A52.out).mono ?_); (case side1 => exact GW.below HGW.out qF); rintro e w57 ⟨rfl, hb⟩; have n0_ := qM (Kd.R_below (by (with_reducible repeat (first | apply Kd.R_alloc | apply Kd.R_drewN | apply Kd.R_drew)); exact (Kd.R_mono (Kd.R_far (p := ⟨gb244, 2, none⟩) (Kd.R_far (p := ⟨gb244, 1, none⟩) (Kd.R_far (p := ⟨gb244, 0, none⟩) (Kd.R_types HO240.out BK244.out (by decide)) (fun _ hk => hk.2) (.int .i64 t241)) (fun _ hk => hk.2) (.int .i64 t242)) (fun _ hk => hk.2) (.string t243)) (fun _ h_ => h_.1))) hb); have n1_ := qM (qb (g := gb244) (o := .cells #[.int .i64 t241, .int .i64 t242, .string t243] 26 (0, 0)) (by (with_reducible repeat (first | refine qn ?_ _ | refine qd ?_ | refine qa ?_ _)); refine blk_put (cs := #[.int .i64 t241, .int .i64 t242, .string (⟨#[]⟩ : ByteArray)]) ?_ 2 _ rfl; (with_reducible repeat (first | refine qn ?_ _ | refine qd ?_ | refine qa ?_ _)); refine blk_put (cs := #[.int .i64 t241, .int .i64 0, .string (⟨#[]⟩ : ByteArray)]) ?_ 1 _ rfl; (with_reducible repeat (first | refine qn ?_ _ | refine qd ?_ | refine qa ?_ _)); refine blk_put (cs := #[.int .i64 0, .int .i64 0, .string (⟨#[]⟩ : ByteArray)]) ?_ 0 _ rfl; (with_reducible repeat (first | refine qn ?_ _ | refine qd ?_ | refine qa ?_ _)); exact BK244.out) hb); have n2_ := qM (qP qF hb); clear HO240; clear BK244; clear HB; have HO240 := n0_; have BK244 := n1_; have HB := n2_; clear n0_ n1_ n2_; (try clear hb); (try clear hb2); (try clear hk); (try clear hi)))
    (go_ret); (exact ⟨qE, qF⟩)
   ·rw [if_neg c51] at H
    (have c51b0 : ((t238.length : Int) == 0) = false := beq_eq_false_iff_ne.mpr c51); (have c51b1 : ((t238.length : Int) != 0) = true := bne_iff_ne.mpr c51); (have c51b2 : ¬ (t238 = []) := fun h_ => c51 (by rw [h_]; rfl)); (obtain rfl := Option.some.inj H); (go_enter Tryd.func5, Tryd.ntmps5)
    go_wp2_with (first | ((with_reducible refine gate_callee (f := 9) rfl ?_); refine goesL_ (some 14) rfl rfl Tryd.func9 (by kernel_rfl) rfl #[.string a0] rfl (by (try simp only [List.map_toArray, List.map_cons, List.map_nil]); first | done | rfl | (simp only [List.length_drop, List.length_take]; rfl)) ?_; (with_reducible refine (speclex_Scan.calls k a0 t238 t241 t242 t243 _ ?side1 A5.out).mono ?_); (case side1 => exact GW.below HGW.out qF); rintro e w58 ⟨v239, rfl, ho0, hb⟩; refine ⟨_, rfl, ?_⟩; have n0_ := qM (Kd.R_lower ho0 (qZ qF)); have n1_ := qM (qP qF hb); clear HB; have HO240 := n0_; have HB := n1_; clear n0_ n1_; (try clear hb); (try clear hb2); (try clear hk); (try clear hi); (try clear ho0)) | ((with_reducible refine gate_dst (N := 4) rfl ?_); refine box_event ?hg (N := 4) ?hd (cs := #[.int .i64 0, .int .i64 0, .string (⟨#[]⟩ : ByteArray)]) (t := 26) ?hr ?_; (case hd => rfl); (case hg => rfl); (case hr => first | (go_simp; done) | (go_simp; rfl)); intro gb244 hg w59 hbox hb; have n0_ := qM (Kd.R_below (by (with_reducible repeat (first | apply Kd.R_alloc | apply Kd.R_drewN | apply Kd.R_drew)); exact HO240.out) hb); have n1_ := qM (qP qF hb); have n2_ := qM (hbox); have n3_ := qM ((by rw [hg]; exact (qZ qF) : w.heap.size ≤ gb244)); have n4_ := qM ((by rw [hg]; exact (qZ qF) : w.heap.size ≤ gb244)); clear HO240; clear HB; have HO240 := n0_; have HB := n1_; have BK244 := n2_; have GW244 := n3_; have GE244 := n4_; clear n0_ n1_ n2_ n3_ n4_; clear hb hbox hg; obtain ⟨hcz60_0, hcz60_1, hcz60_2, hfz60_0, hfz60_1, hfz60_2⟩ := bx3 BK244.out; obtain ⟨Ao61, co61, eo61⟩ := Kd.R_slice HO240.out; subst eo61))
    (go_ret); (exact ⟨qE, qF⟩)
end Go.Proofs.YthijdjpipjbkbaaDoor.H
end
section
namespace Go.Proofs.YthijdjpipjbkbaaDoor.H
open Go.RowKit Go.Proofs.YthijdjpipjbkbaaDoorW.PrintWords Go.Proofs.YthijdjpipjbkbaaDoorW.PrintLast Go.Proofs.YthijdjpipjbkbaaDoorW.PrintMore
set_option linter.unusedVariables false
set_option linter.unusedSimpArgs false
theorem same2_l0 (l m : List S32) (hl : l.length ≤ 100000) (h : m.map (fun x => (x.f0, x.f1)) = l.map (fun x => (x.f0, x.f1))) : ∀ (d i : Nat), l.length = i + d → Ends (fun k => arboristlaw11_same.l0 k l m (i : Int)) true := by
  have hlen : m.length = l.length := by have := congrArg List.length h; simpa using this
  intro d
  induction d with
  | zero => intro i h; exact Ends.step (fun k => arboristlaw11_same.l0.eq_2 ..) (Ends.neg (by omega) (Ends.const _))
  | succ d ih =>
    intro i hi
    have h1 : i < l.length := by omega
    have h2 : i < m.length := by omega
    have e := congrArg (·[i]?) h
    simp only [List.getElem?_map, List.getElem?_eq_getElem h1, List.getElem?_eq_getElem h2, Option.map_some, Option.some.injEq, Prod.mk.injEq] at e
    refine Ends.step (fun k => arboristlaw11_same.l0.eq_2 ..) (Ends.pos (by omega) (Ends.pos (by omega) (Ends.pos (by omega) ?_)))
    rw [rdS l i h1, rdS m i h2, next_nat i (by omega)]
    exact Ends.pos e.1.symm (Ends.pos (by rw [e.2]) (ih (i + 1) (by omega)))
theorem Pure.SpeclexBack (a0 : ByteArray) (w0 : a0.size ≤ reachBytes) : ∃ k, arboristlaw11_SpeclexBack.f k a0 = some true := by
  refine Ends.get (g := fun k => arboristlaw11_SpeclexBack.f k a0) ?_
  unfold arboristlaw11_SpeclexBack.f
  by_cases h4 : (a0.size : Int) > 400
  · exact Ends.pos h4 knows_ends
  refine Ends.neg h4 ?_
  obtain ⟨v, f1, f2⟩ := scan_good a0 (by omega) a0.size 0 [] (by omega) (by omega) (by simp)
  have hsc : Ends (fun k => speclex_Scan.f k a0) v := by
    unfold speclex_Scan.f
    exact Ends.pos (by omega) f1
  rcases f2 with ⟨L, rfl, g1, g2, _⟩ | ⟨e, a, rfl, he⟩
  · rw [List.nil_append] at hsc
    have hshow : speclex_Show.f L = some (ba (showFrom none L)) := by
      unfold speclex_Show.f
      rw [if_pos]; rfl
      unfold smallToks
      simp only [Bool.and_eq_true, decide_eq_true_eq, List.all_eq_true]
      exact ⟨by omega, fun m hm => by have := (g1.mem m hm).size; omega⟩
    refine Ends.bind hsc (Ends.pos rfl (Ends.bind0 hshow ?_))
    by_cases hz : ((ba (showFrom none L)).size : Int) > 65536
    · exact Ends.pos hz knows_ends
    refine Ends.neg hz ?_
    rw [ba_len] at hz
    obtain ⟨M, r1, r2⟩ := rescan L none [] [] g1 (by rw [List.nil_append]; omega) (by rw [List.length_nil]; omega)
    rw [List.nil_append, List.nil_append] at r1
    have hsc2 : Ends (fun k => speclex_Scan.f k (ba (showFrom none L))) (M, 0, 0, ⟨#[]⟩) := by
      unfold speclex_Scan.f
      exact Ends.pos (by rw [ba_len]; omega) r1
    have hml : L.length = M.length := by have := congrArg List.length r2; simpa using this.symm
    have hsame : Ends (fun k => arboristlaw11_same.f k L M) true := Ends.pos (by omega) (same2_l0 L M (by omega) r2 L.length 0 (by omega))
    refine Ends.bind hsc2 (Ends.pos (by simp [Lib.toList_data]) (Ends.bind hsame (Ends.pos rfl knows_ends)))
  · exact Ends.bind hsc (Ends.neg he (Ends.pos rfl knows_ends))
end Go.Proofs.YthijdjpipjbkbaaDoor.H
end
section
namespace Go.Proofs.YthijdjpipjbkbaaDoor.H.speclexBack
open Go.ChangeShapes Go.WideShapes Go.ChangeAt Go.RowKit Go.Proofs.YthijdjpipjbkbaaDoorW.PrintWords Go.Proofs.YthijdjpipjbkbaaDoorW.PrintLast Go.Proofs.YthijdjpipjbkbaaDoorW.PrintMore
open Go.ChangeMaps (open_string shut_string)
set_option linter.unusedVariables false
set_option linter.unusedSimpArgs false
theorem own : ownKnob Tryd.prog.godebug = none := by kernel_rfl
theorem laidOut : laidOutB Tryd.prog = true := by kernel_rfl
noncomputable def laidWorld (os : Os) : World := { World.holding Tryd.prog os ⟨#[], #[], []⟩ with heap := (((((((World.holding Tryd.prog os ⟨#[], #[], []⟩).heap).modify 5 (fun | .cells _ t frozen => .cells (([0, 1, 28, 2, 29, 14, 24, 3, 30, 22, 20, 15, 25, 17, 4, 8, 31, 27, 13, 23, 21, 19, 16, 7, 26, 12, 18, 6, 11, 5, 10, 9] : List Int).map fun z => Value.int .u8 z).toArray t frozen | o => o)).modify 6 (fun | .cells _ t frozen => .cells (([0, 1, 56, 2, 57, 49, 28, 3, 61, 58, 42, 50, 38, 29, 17, 4, 62, 47, 59, 36, 45, 43, 51, 22, 53, 39, 33, 30, 24, 18, 12, 5, 63, 55, 48, 27, 60, 41, 37, 16, 46, 35, 44, 21, 52, 32, 23, 11, 54, 26, 40, 15, 34, 20, 31, 10, 25, 14, 19, 9, 13, 8, 7, 6] : List Int).map fun z => Value.int .u8 z).toArray t frozen | o => o)).modify 4 (fun | .cells _ t frozen => .cells (([1, 10, 100, 1000, 10000, 100000, 1000000, 10000000, 100000000, 1000000000, 10000000000, 100000000000, 1000000000000, 10000000000000, 100000000000000, 1000000000000000, 10000000000000000, 100000000000000000, 1000000000000000000, 10000000000000000000] : List Int).map fun z => Value.int .u64 z).toArray t frozen | o => o)).modify 3 (fun | .cells _ t frozen => .cells (([128, 191, 160, 191, 128, 159, 144, 191, 128, 143, 0, 0, 0, 0, 0, 0, 0, 0, 0, 0, 0, 0, 0, 0, 0, 0, 0, 0, 0, 0, 0, 0] : List Int).map fun z => Value.int .u8 z).toArray t frozen | o => o)).modify 0 (fun | .cells _ t frozen => .cells (([[37, 109, 111, 100, 101], [37, 116, 111, 107, 101, 110], [37, 115, 107, 105, 112], [37, 119, 111, 114, 100], [37, 108, 101, 102, 116], [37, 114, 105, 103, 104, 116], [37, 110, 111, 110], [37, 111, 110, 108, 121], [37, 115, 116, 97, 114, 116], [37, 112, 114, 101, 99]] : List (List UInt8)).map fun s => Value.string ⟨s.toArray⟩).toArray t frozen | o => o)).modify 2 (fun | .cells _ t frozen => .cells (([240, 240, 240, 240, 240, 240, 240, 240, 240, 240, 240, 240, 240, 240, 240, 240, 240, 240, 240, 240, 240, 240, 240, 240, 240, 240, 240, 240, 240, 240, 240, 240, 240, 240, 240, 240, 240, 240, 240, 240, 240, 240, 240, 240, 240, 240, 240, 240, 240, 240, 240, 240, 240, 240, 240, 240, 240, 240, 240, 240, 240, 240, 240, 240, 240, 240, 240, 240, 240, 240, 240, 240, 240, 240, 240, 240, 240, 240, 240, 240, 240, 240, 240, 240, 240, 240, 240, 240, 240, 240, 240, 240, 240, 240, 240, 240, 240, 240, 240, 240, 240, 240, 240, 240, 240, 240, 240, 240, 240, 240, 240, 240, 240, 240, 240, 240, 240, 240, 240, 240, 240, 240, 240, 240, 240, 240, 240, 240, 241, 241, 241, 241, 241, 241, 241, 241, 241, 241, 241, 241, 241, 241, 241, 241, 241, 241, 241, 241, 241, 241, 241, 241, 241, 241, 241, 241, 241, 241, 241, 241, 241, 241, 241, 241, 241, 241, 241, 241, 241, 241, 241, 241, 241, 241, 241, 241, 241, 241, 241, 241, 241, 241, 241, 241, 241, 241, 241, 241, 241, 241, 241, 241, 241, 241, 2, 2, 2, 2, 2, 2, 2, 2, 2, 2, 2, 2, 2, 2, 2, 2, 2, 2, 2, 2, 2, 2, 2, 2, 2, 2, 2, 2, 2, 2, 19, 3, 3, 3, 3, 3, 3, 3, 3, 3, 3, 3, 3, 35, 3, 3, 52, 4, 4, 4, 68, 241, 241, 241, 241, 241, 241, 241, 241, 241, 241, 241] : List Int).map fun z => Value.int .u8 z).toArray t frozen | o => o) }
set_option maxRecDepth 100000 in
theorem laid_met (os : Os) (args : Array Value) : laidMet Tryd.prog Rows.speclexBackRow.laid ((laidWorld os).forCall (fun _ _ => 0) ⟨#[], args, []⟩).memory := laidMet_of_run' 8 (by kernel_rfl) (by kernel_rfl)
set_option maxRecDepth 100000 in
theorem witness_row (os : Os) {H : Type} (enc : TypeId × Value → H) :
    (OpenSpec.ofChange Rows.speclexBackSpec).preRow enc Tryd.prog Tryd.f5 Rows.speclexBackRow.domain false Rows.speclexBackRow.laid ((laidWorld os).forCall (fun _ _ => 0) ⟨#[], #[.string ⟨#[]⟩], []⟩).memory #[.string ⟨#[]⟩] := by
  have hw : (DataW.whole enc Tryd.prog ((laidWorld os).forCall (fun _ _ => 0) ⟨#[], #[.string ⟨#[]⟩], []⟩).memory Tryd.f5.params.toList (OpenSpec.ofChange Rows.speclexBackSpec).vars false (#[.string ⟨#[]⟩] : Array Value).toList 8).map (fun x => (x.1, x.2.1)) =
      some ([.lit (.string [])], []) := by kernel_rfl
  obtain ⟨⟨x1, x2, x3⟩, hx, hx1⟩ := Option.map_eq_some_iff.1 hw
  simp only [Prod.mk.injEq] at hx1
  obtain ⟨rfl, rfl⟩ := hx1
  exact OpenSpec.preRow_of_cond 8 hx (by kernel_rfl) (fun k hk => by cases hk) (by kernel_rfl) (laid_met os _)
set_option maxRecDepth 100000 in
set_option maxHeartbeats 2000000 in
theorem lifted (os : Os) (started : os.Started) (H : Type) (enc : TypeId × Value → H) (F : Stop.Interp) :
    ReturnsInHanded {} Tryd.checked os 5 .any ((OpenSpec.ofChange Rows.speclexBackSpec).preRow enc Tryd.prog Tryd.f5 Rows.speclexBackRow.domain false Rows.speclexBackRow.laid) (((OpenSpec.ofChange Rows.speclexBackSpec).at F).post enc Tryd.prog Tryd.f5 false true false false) := by
  refine returnsInHanded_of_row (C := Tryd.checked) (s := (OpenSpec.ofChange Rows.speclexBackSpec)) own started (by kernel_rfl) Tryd.func5
    (witness_row_at (enc := enc) (C := Tryd.checked) false (laidWorld os) #[.string ⟨#[]⟩] rfl (by kernel_rfl) (by kernel_rfl) (by kernel_rfl) (witness_row os enc)) ?_
  intro W base args ds gs before hval0 hW _ hcond0 hsz0 hL hsh _
  have hsz : (DataW.weightsEach Tryd.prog (Tryd.f5.params.toList ++ (OpenSpec.ofChange Rows.speclexBackSpec).bare.plain.varTypes Tryd.prog) (ds ++ gs)).all (· ≤ reachBytes) = true := hsz0
  have hval : ∀ (j : Nat) t v, Tryd.f5.params[j]? = some t → args[j]? = some v → Value.okWide Tryd.prog W .any base t v := hval0
  have hW' := hW
  obtain ⟨p, q, hA0, hV0, rfl, _, _⟩ := hW
  have hA : DataW.TrodAll enc Tryd.prog W 0 (fun _ => true) true Tryd.f5.params.toList args.toList ds p := hA0
  rw [Tryd.params5] at hA hval hsz
  obtain ⟨v0, vs0, d0, ds0, p0, q0, hargs, rfl, rfl, h0, r0⟩ := trodAll_cons hA
  obtain ⟨rfl, rfl, rfl⟩ := trodAll_nil r0
  obtain rfl : args = #[v0] := by cases args; simp_all
  obtain ⟨rfl, rfl⟩ := trodVars_none hV0
  have hlt : ∀ x ∈ p0 ++ ([]), x.block < W.heap.size := fun x hx => by simpa using hW'.lt x (by simpa using hx)
  obtain ⟨a0, rfl, rfl, rfl, y0⟩ := open_string Tryd.underlying9 (hval 0 9 v0 rfl rfl) h0
  have w0 : a0.size ≤ reachBytes := by
    have z := sized_string hsz (j := 0) (t := 9) rfl rfl
    rw [Array.length_toList] at z
    exact z
  have hgw : GW W := gw_of hsh (Go.Lib.laidMet.reads hL (List.Mem.tail _ (List.Mem.tail _ (List.Mem.head _)))) (Go.Lib.laidMet.reads hL (List.Mem.tail _ (List.Mem.tail _ (List.Mem.tail _ (List.Mem.tail _ (List.Mem.tail _ (List.Mem.head _))))))) (Go.Lib.laidMet.reads hL (List.Mem.tail _ (List.Mem.tail _ (List.Mem.tail _ (List.Mem.head _))))) (Go.Lib.laidMet.reads hL (List.Mem.tail _ (List.Mem.head _))) (Go.Lib.laidMet.reads hL (List.Mem.tail _ (List.Mem.tail _ (List.Mem.tail _ (List.Mem.tail _ (List.Mem.head _))))))
  clear hcond0 hsz0 hA0 hV0 hval0
  obtain ⟨k, hf⟩ := Pure.SpeclexBack a0 w0
  refine (arboristlaw11_SpeclexBack.calls k a0 true W hgw  hf).mono fun e W' ⟨he, bel⟩ => ?_
  subst he
  exact ⟨_, rfl, _, _, _, [], _, [], hW', trodAll_mk1 (shut_bool Tryd.underlying4 _), (trodAll_cons_mk (shut_string Tryd.underlying9 y0) trodAll_mk0), rfl, bel.frame _, fun h => by cases h⟩
set_option maxRecDepth 100000 in
theorem holds : Rows.speclexBackRow.holds Tryd.pinned (OpenSpec.ofChange Rows.speclexBackSpec) :=
  OpenClaim.holds_of_cond 5 Tryd.f5 rfl rfl rfl rfl rfl rfl rfl ⟨rfl, rfl, rfl, rfl, rfl⟩ rfl rfl rfl rfl rfl (by kernel_rfl) Tryd.func5 (by kernel_rfl)
    (of_decide_eq_true (by kernel_rfl)) (by unfold Func.isWrapper; first | (rw [if_pos (by decide +kernel)]; kernel_rfl) | (rw [if_neg (by decide +kernel)]; exact ⟨rfl, rfl⟩))
    (fun os started H enc _ F0 => by rw [OpenClaim.pre_eq_preRow]; exact lifted os started H enc F0)
set_option maxRecDepth 100000 in
theorem card : Rows.SpeclexBackCardSaid :=
  Claim7.holds_tied_plain_at .later [] [.data, .data, .data, .data, .data, .pinned] true (true, "b9848e23086db2b19e13492054286a997c9905366071f1e75882b886d57ef9ba") false
    holds (fun _ h => by cases h) (by kernel_rfl) (fun _ h => by cases h) speclexBack_row_tie rfl ⟨rfl, rfl⟩ (by kernel_rfl) rfl
    (fun f fn hf hfn => by
      obtain rfl : f = 5 := Option.some.inj ((show Tryd.prog.funcNamed "arborist/arboristlaw11.SpeclexBack" = some 5 by kernel_rfl).symm.trans hf) |>.symm
      obtain rfl : fn = Tryd.f5 := (Option.some.inj (Tryd.func5.symm.trans hfn)).symm
      exact ⟨by kernel_rfl, fun j t ht => by
        rw [Tryd.params5] at ht
        rcases j with _ | j
        · obtain rfl : t = 9 := by simpa using ht.symm
          kernel_rfl
        · simp at ht⟩)
    (by kernel_rfl)
#print axioms card
end Go.Proofs.YthijdjpipjbkbaaDoor.H.speclexBack
namespace Go.Proofs.YthijdjpipjbkbaaDoor
theorem speclexBack_card : Rows.SpeclexBackCardSaid := H.speclexBack.card
#print axioms speclexBack_card
end Go.Proofs.YthijdjpipjbkbaaDoor
end
