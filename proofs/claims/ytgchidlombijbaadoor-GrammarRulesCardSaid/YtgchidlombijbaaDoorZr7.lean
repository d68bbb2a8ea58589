import Derived.Test.YtgchidlombijbaaDoorRows
import Derived.Test.YtgchidlombijbaaDoorTie
import Derived.Test.YtgchidlombijbaaDoorCards
import Derived.Deep.DeepHandedRow
import Derived.ProofKit
import Derived.SizedLaws
import Derived.OpenShut
import Derived.ShutString
import Derived.ChangeOld
import Derived.Below
import Derived.SevenTiedAt
import Derived.WalkKit
import Derived.Stop.LaidErr
import Derived.Test.YtgchidlombijbaaDoorZr6
section
namespace Go.Proofs.YtgchidlombijbaaDoor.H
open Go.RowKit Go.Proofs.YtgchidlombijbaaDoorW.PrintWords Go.Proofs.YtgchidlombijbaaDoorW.PrintLast Go.Proofs.YtgchidlombijbaaDoorW.PrintMore
set_option linter.unusedVariables false
set_option linter.unusedSimpArgs false
def ofGo (n : Int) : List S43 → Nat → List Int
  | [], _ => []
  | x :: r, i => if x.f0 = n then (i : Int) :: ofGo n r (i + 1) else ofGo n r (i + 1)
theorem ofGo_len (n : Int) : ∀ (l : List S43) (i : Nat), (ofGo n l i).length ≤ l.length
  | [], _ => Nat.le_refl _
  | x :: r, i => by
    have := ofGo_len n r (i + 1)
    simp only [ofGo]
    split <;> simp <;> omega
theorem grammar_Of.ends (n : Int) (l : List S43) (hl : l.length ≤ 1000000) : ∀ (rest : List S43) (i : Nat) (acc : List Int), l.drop i = rest → acc.length ≤ i →
    ∃ k, grammar_Of.l0 k n acc l (l.length : Int) (i : Int) = some (acc ++ ofGo n rest i) := by
  intro rest
  induction rest with
  | nil =>
    intro i acc hd ha
    have := drop_nil hd
    refine ⟨1, ?_⟩
    simp only [grammar_Of.l0]
    rw [if_neg (by omega)]
    simp [ofGo]
  | cons x r ih =>
    intro i acc hd ha
    obtain ⟨hi, hr, hx⟩ := drop_cons hd
    have e1 : (rd_T43 l (i : Int)) = x := by unfold rd_T43; simpa using hx _
    have e2 : wrap64 ((i : Int) + 1) = ((i + 1 : Nat) : Int) := by rw [wrap_id (by omega) (by omega)]; push_cast; rfl
    by_cases h : x.f0 = n
    · obtain ⟨k, hk⟩ := ih (i + 1) (acc ++ [(i : Int)]) hr (by simp; omega)
      refine ⟨k + 1, ?_⟩
      simp only [grammar_Of.l0]
      rw [if_pos (by omega), if_pos (by omega), if_pos (by omega), e1, if_pos h, if_pos (by omega), e2, hk]
      simp [ofGo, h]
    · obtain ⟨k, hk⟩ := ih (i + 1) acc hr (by omega)
      refine ⟨k + 1, ?_⟩
      simp only [grammar_Of.l0]
      rw [if_pos (by omega), if_pos (by omega), if_pos (by omega), e1, if_neg h, e2, hk]
      simp [ofGo, h]
theorem arboristref15_Of.ends (n : Int) (l0 l1 : List ByteArray) (l2 : List Int) (l : List S43) (l4 : List S46) (hl : l.length ≤ 1000000) : ∀ (rest : List S43) (i : Nat) (acc : List Int), l.drop i = rest → acc.length ≤ i →
    ∃ k, arboristref15_Of.l0 k n acc (i : Int) l0 l1 l2 l l4 = some (acc ++ ofGo n rest i) := by
  intro rest
  induction rest with
  | nil =>
    intro i acc hd ha
    have := drop_nil hd
    refine ⟨1, ?_⟩
    simp only [arboristref15_Of.l0]
    rw [if_neg (by omega)]
    simp [ofGo]
  | cons x r ih =>
    intro i acc hd ha
    obtain ⟨hi, hr, hx⟩ := drop_cons hd
    have e1 : (rd_T43 l (i : Int)) = x := by unfold rd_T43; simpa using hx _
    have e2 : wrap64 ((i : Int) + 1) = ((i + 1 : Nat) : Int) := by rw [wrap_id (by omega) (by omega)]; push_cast; rfl
    by_cases h : x.f0 = n
    · obtain ⟨k, hk⟩ := ih (i + 1) (acc ++ [(i : Int)]) hr (by simp; omega)
      refine ⟨k + 1, ?_⟩
      simp only [arboristref15_Of.l0]
      rw [if_pos (by omega), if_pos (by omega), e1, if_pos h, if_pos (by omega), e2, hk]
      simp [ofGo, h]
    · obtain ⟨k, hk⟩ := ih (i + 1) acc hr (by omega)
      refine ⟨k + 1, ?_⟩
      simp only [arboristref15_Of.l0]
      rw [if_pos (by omega), if_pos (by omega), e1, if_neg h, e2, hk]
      simp [ofGo, h]
theorem ints_ends (l : List Int) (hl : l.length ≤ 1000000) : ∀ (m i : Nat), l.length - i = m → ∃ k, arboristref15_Ints.l0 k l l (i : Int) = some true := by
  intro m
  induction m with
  | zero =>
    intro i h
    refine ⟨1, ?_⟩
    simp only [arboristref15_Ints.l0]
    rw [if_neg (by omega)]
  | succ m ih =>
    intro i h
    obtain ⟨k, hk⟩ := ih (i + 1) (by omega)
    have e2 : wrap64 ((i : Int) + 1) = ((i + 1 : Nat) : Int) := by rw [wrap_id (by omega) (by omega)]; push_cast; rfl
    refine ⟨k + 1, ?_⟩
    simp only [arboristref15_Ints.l0]
    rw [if_pos (by omega), if_pos (by omega), if_pos (by omega), if_pos trivial, e2, hk]
theorem Pure.GrammarRules (x : S27) (a1 : Int) (hx : ok27 x) (h1 : (Lit.int .i64 a1).wf = true) : ∃ k, arboristlaw15_GrammarRules.f k x.f0 x.f1 x.f2 x.f3 x.f4 a1 = some true := by
  obtain ⟨k0, v, hv, hp⟩ := few_ends x hx
  cases v with
  | false =>
    refine ⟨k0 + 30, ?_⟩
    unfold arboristlaw15_GrammarRules.f
    rw [up (fun k => arboristref15_Few.mono _ _ _ _ _ _ k) (Nat.le_add_right k0 30) hv, up (fun k => arboristlaw15_knows.mono k) (Nat.le_add_left 30 k0) knows_true]
    rfl
  | true =>
    have hs := hp rfl
    obtain ⟨k1, h1⟩ := grammar_Of.ends a1 x.f3 (by have := hs.h3; omega) x.f3 0 [] rfl (Nat.le_refl _)
    obtain ⟨k2, h2⟩ := arboristref15_Of.ends a1 x.f0 x.f1 x.f2 x.f3 x.f4 (by have := hs.h3; omega) x.f3 0 [] rfl (Nat.le_refl _)
    obtain ⟨k3, h3⟩ := ints_ends (ofGo a1 x.f3 0) (by have := ofGo_len a1 x.f3 0; have := hs.h3; omega) _ 0 rfl
    refine ⟨k0 + 30 + k1 + k2 + k3, ?_⟩
    unfold arboristlaw15_GrammarRules.f
    have e1 : grammar_Of.f k1 x.f0 x.f1 x.f2 x.f3 x.f4 a1 = some (ofGo a1 x.f3 0) := by unfold grammar_Of.f; simpa using h1
    have e2 : arboristref15_Of.f k2 x.f0 x.f1 x.f2 x.f3 x.f4 a1 = some (ofGo a1 x.f3 0) := by unfold arboristref15_Of.f; simpa using h2
    have e3 : arboristref15_Ints.f k3 (ofGo a1 x.f3 0) (ofGo a1 x.f3 0) = some true := by unfold arboristref15_Ints.f; rw [if_pos rfl]; simpa using h3
    rw [up (fun k => arboristref15_Few.mono _ _ _ _ _ _ k) (by omega) hv]
    simp only [Option.bind_some, if_true]
    rw [up (fun k => grammar_Of.mono _ _ _ _ _ _ k) (by omega : k1 ≤ k0 + 30 + k1 + k2 + k3) e1]
    simp only [Option.bind_some]
    rw [up (fun k => arboristref15_Of.mono _ _ _ _ _ _ k) (by omega : k2 ≤ k0 + 30 + k1 + k2 + k3) e2]
    simp only [Option.bind_some]
    rw [up (fun k => arboristref15_Ints.mono _ _ k) (by omega : k3 ≤ k0 + 30 + k1 + k2 + k3) e3]
    simp only [Option.bind_some, if_true]
    rw [up (fun k => arboristlaw15_knows.mono k) (by omega : 30 ≤ k0 + 30 + k1 + k2 + k3) knows_true]
    rfl
end Go.Proofs.YtgchidlombijbaaDoor.H
end
section
namespace Go.Proofs.YtgchidlombijbaaDoor.H.grammarRules
open Go.ChangeShapes Go.WideShapes Go.ChangeAt Go.RowKit Go.Proofs.YtgchidlombijbaaDoorW.PrintWords Go.Proofs.YtgchidlombijbaaDoorW.PrintLast Go.Proofs.YtgchidlombijbaaDoorW.PrintMore
open Go.ChangeMaps (open_string shut_string)
set_option linter.unusedVariables false
set_option linter.unusedSimpArgs false
theorem own : ownKnob Tryd.prog.godebug = none := by kernel_rfl
theorem laidOut : laidOutB Tryd.prog = true := by kernel_rfl
noncomputable def laidWorld (os : Os) : World := { World.holding Tryd.prog os ⟨#[], #[], []⟩ with heap := ((((World.holding Tryd.prog os ⟨#[], #[], []⟩).heap).modify 2 (fun | .cells _ t frozen => .cells (([0, 1, 28, 2, 29, 14, 24, 3, 30, 22, 20, 15, 25, 17, 4, 8, 31, 27, 13, 23, 21, 19, 16, 7, 26, 12, 18, 6, 11, 5, 10, 9] : List Int).map fun z => Value.int .u8 z).toArray t frozen | o => o)).modify 3 (fun | .cells _ t frozen => .cells (([0, 1, 56, 2, 57, 49, 28, 3, 61, 58, 42, 50, 38, 29, 17, 4, 62, 47, 59, 36, 45, 43, 51, 22, 53, 39, 33, 30, 24, 18, 12, 5, 63, 55, 48, 27, 60, 41, 37, 16, 46, 35, 44, 21, 52, 32, 23, 11, 54, 26, 40, 15, 34, 20, 31, 10, 25, 14, 19, 9, 13, 8, 7, 6] : List Int).map fun z => Value.int .u8 z).toArray t frozen | o => o)).modify 1 (fun | .cells _ t frozen => .cells (([1, 10, 100, 1000, 10000, 100000, 1000000, 10000000, 100000000, 1000000000, 10000000000, 100000000000, 1000000000000, 10000000000000, 100000000000000, 1000000000000000, 10000000000000000, 100000000000000000, 1000000000000000000, 10000000000000000000] : List Int).map fun z => Value.int .u64 z).toArray t frozen | o => o) }
set_option maxRecDepth 100000 in
theorem laid_met (os : Os) (args : Array Value) : laidMet Tryd.prog Rows.grammarRulesRow.laid ((laidWorld os).forCall (fun _ _ => 0) ⟨#[], args, []⟩).memory := laidMet_of_run' 8 (by kernel_rfl) (by kernel_rfl)
set_option maxRecDepth 100000 in
theorem witness_row (os : Os) {H : Type} (enc : TypeId × Value → H) :
    (OpenSpec.ofChange Rows.grammarRulesSpec).preRow enc Tryd.prog Tryd.f5 Rows.grammarRulesRow.domain false Rows.grammarRulesRow.laid ((laidWorld os).forCall (fun _ _ => 0) ⟨#[], #[.agg #[.slice none 0 0, .slice none 0 0, .slice none 0 0, .slice none 0 0, .slice none 0 0], .int .i64 0], []⟩).memory #[.agg #[.slice none 0 0, .slice none 0 0, .slice none 0 0, .slice none 0 0, .slice none 0 0], .int .i64 0] := by
  have hw : (DataW.whole enc Tryd.prog ((laidWorld os).forCall (fun _ _ => 0) ⟨#[], #[.agg #[.slice none 0 0, .slice none 0 0, .slice none 0 0, .slice none 0 0, .slice none 0 0], .int .i64 0], []⟩).memory Tryd.f5.params.toList (OpenSpec.ofChange Rows.grammarRulesSpec).vars false (#[.agg #[.slice none 0 0, .slice none 0 0, .slice none 0 0, .slice none 0 0, .slice none 0 0], .int .i64 0] : Array Value).toList 8).map (fun x => (x.1, x.2.1)) =
      some ([.agg [.nil, .nil, .nil, .nil, .nil], .lit (.int .i64 0)], []) := by kernel_rfl
  obtain ⟨⟨x1, x2, x3⟩, hx, hx1⟩ := Option.map_eq_some_iff.1 hw
  simp only [Prod.mk.injEq] at hx1
  obtain ⟨rfl, rfl⟩ := hx1
  exact OpenSpec.preRow_of_cond 8 hx (by kernel_rfl) (fun k hk => by cases hk) (by kernel_rfl) (laid_met os _)
set_option maxRecDepth 100000 in
set_option maxHeartbeats 2000000 in
theorem lifted (os : Os) (started : os.Started) (H : Type) (enc : TypeId × Value → H) (F : Stop.Interp) :
    ReturnsInHanded {} Tryd.checked os 5 .any ((OpenSpec.ofChange Rows.grammarRulesSpec).preRow enc Tryd.prog Tryd.f5 Rows.grammarRulesRow.domain false Rows.grammarRulesRow.laid) (((OpenSpec.ofChange Rows.grammarRulesSpec).at F).post enc Tryd.prog Tryd.f5 false true false false) := by
  refine returnsInHanded_of_row (C := Tryd.checked) (s := (OpenSpec.ofChange Rows.grammarRulesSpec)) own started (by kernel_rfl) Tryd.func5
    (witness_row_at (enc := enc) (C := Tryd.checked) false (laidWorld os) #[.agg #[.slice none 0 0, .slice none 0 0, .slice none 0 0, .slice none 0 0, .slice none 0 0], .int .i64 0] rfl (by kernel_rfl) (by kernel_rfl) (by kernel_rfl) (witness_row os enc)) ?_
  intro W base args ds gs before hval0 hW _ hcond0 hsz0 hL hsh _
  have hsz : (DataW.weightsEach Tryd.prog (Tryd.f5.params.toList ++ (OpenSpec.ofChange Rows.grammarRulesSpec).bare.plain.varTypes Tryd.prog) (ds ++ gs)).all (· ≤ reachBytes) = true := hsz0
  have hval : ∀ (j : Nat) t v, Tryd.f5.params[j]? = some t → args[j]? = some v → Value.okWide Tryd.prog W .any base t v := hval0
  have hW' := hW
  obtain ⟨p, q, hA0, hV0, rfl, _, _⟩ := hW
  have hA : DataW.TrodAll enc Tryd.prog W 0 (fun _ => true) true Tryd.f5.params.toList args.toList ds p := hA0
  rw [Tryd.params5] at hA hval hsz
  obtain ⟨v0, vs0, d0, ds0, p0, q0, hargs, rfl, rfl, h0, r0⟩ := trodAll_cons hA
  obtain ⟨v1, vs1, d1, ds1, p1, q1, rfl, rfl, rfl, h1, r1⟩ := trodAll_cons r0
  obtain ⟨rfl, rfl, rfl⟩ := trodAll_nil r1
  obtain rfl : args = #[v0, v1] := by cases args; simp_all
  obtain ⟨rfl, rfl⟩ := trodVars_none hV0
  have hlt : ∀ x ∈ p0 ++ (p1 ++ ([])), x.block < W.heap.size := fun x hx => by simpa using hW'.lt x (by simpa using hx)
  obtain ⟨c0, rfl, hc0⟩ := okWide_struct Tryd.underlying27 (hval 0 27 v0 rfl rfl)
  obtain ⟨a0, hK0, ok0_⟩ := Opens.of opens_k27 hsz (j := 0) (t := 27) rfl rfl h0
  obtain ⟨A0_0, c0_0, A0_1, c0_1, A0_2, c0_2, A0_3, c0_3, A0_4, c0_4, e0_, l0_0, g0_0, l0_1, g0_1, l0_2, g0_2, l0_3, g0_3, l0_4, g0_4⟩ := k27_open hK0
  obtain rfl : c0 = #[.slice A0_0 a0.f0.length c0_0, .slice A0_1 a0.f1.length c0_1, .slice A0_2 a0.f2.length c0_2, .slice A0_3 a0.f3.length c0_3, .slice A0_4 a0.f4.length c0_4] := by cases c0; simp_all [Value.cells]
  obtain ⟨a1, rfl, rfl, rfl, w1⟩ := open_int Tryd.underlying3 (hval 1 3 v1 rfl rfl) h1
  have hgw : GW W := gw_of_laid (hL.tail.tail)
  clear hcond0 hsz0 hA0 hV0 hval0
  obtain ⟨k, hf⟩ := Pure.GrammarRules a0 a1 ok0_ w1
  refine (arboristlaw15_GrammarRules.calls k _ _ a0.f0 _ _ a0.f1 _ _ a0.f2 _ _ a0.f3 _ _ a0.f4 a1 true W hgw g0_0 l0_0 g0_1 l0_1 g0_2 l0_2 g0_3 l0_3 g0_4 l0_4 hf).mono fun e W' ⟨he, bel⟩ => ?_
  subst he
  exact ⟨_, rfl, _, _, _, [], _, [], hW', trodAll_mk1 (shut_bool Tryd.underlying4 _), (trodAll_cons_mk (Below.trod laidOut (by kernel_rfl) (of_decide_eq_true (by kernel_rfl)) h0 bel (fun x hx => hlt x (by simp [hx]))) (trodAll_cons_mk (shut_int Tryd.underlying3 w1) trodAll_mk0)), rfl, bel.frame _, fun h => by cases h⟩
set_option maxRecDepth 100000 in
theorem holds : Rows.grammarRulesRow.holds Tryd.pinned (OpenSpec.ofChange Rows.grammarRulesSpec) :=
  OpenClaim.holds_of_cond 5 Tryd.f5 rfl rfl rfl rfl rfl rfl rfl ⟨rfl, rfl, rfl, rfl, rfl⟩ rfl rfl rfl rfl rfl (by kernel_rfl) Tryd.func5 (by kernel_rfl)
    (of_decide_eq_true (by kernel_rfl)) (by unfold Func.isWrapper; first | (rw [if_pos (by decide +kernel)]; kernel_rfl) | (rw [if_neg (by decide +kernel)]; exact ⟨rfl, rfl⟩))
    (fun os started H enc _ F0 => by rw [OpenClaim.pre_eq_preRow]; exact lifted os started H enc F0)
set_option maxRecDepth 100000 in
theorem card : Rows.GrammarRulesCardSaid :=
  Claim7.holds_tied_plain_at .later [] [.data, .data, .data] true (true, "d037e9e997175c81b12203cd1722279b208e9716b3359586d834d934b320b78c") false
    holds (fun _ h => by cases h) (by kernel_rfl) (fun _ h => by cases h) grammarRules_row_tie rfl ⟨rfl, rfl⟩ (by kernel_rfl) rfl
    (fun f fn hf hfn => by
      obtain rfl : f = 5 := Option.some.inj ((show Tryd.prog.funcNamed "arborist/arboristlaw15.GrammarRules" = some 5 by kernel_rfl).symm.trans hf) |>.symm
      obtain rfl : fn = Tryd.f5 := (Option.some.inj (Tryd.func5.symm.trans hfn)).symm
      exact ⟨by kernel_rfl, fun j t ht => by
        rw [Tryd.params5] at ht
        rcases j with _ | j
        · obtain rfl : t = 27 := by simpa using ht.symm
          kernel_rfl
        rcases j with _ | j
        · obtain rfl : t = 3 := by simpa using ht.symm
          kernel_rfl
        · simp at ht⟩)
    (by kernel_rfl)
#print axioms card
end Go.Proofs.YtgchidlombijbaaDoor.H.grammarRules
namespace Go.Proofs.YtgchidlombijbaaDoor
theorem grammarRules_card : Rows.GrammarRulesCardSaid := H.grammarRules.card
#print axioms grammarRules_card
end Go.Proofs.YtgchidlombijbaaDoor
end
