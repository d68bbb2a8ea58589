/- For every tree that the guards let in, CstTells returns true: Text, Len, Size, Leaves and Clean of package cst agree with the reference. -/
import Derived.Deep.RegionHeld3
import Derived.Laws.IdiomStrings
import Derived.Laws.BitsLemmas
import Derived.Shelf.Strings.BuilderK
import Derived.Shelf.Strings.OnBuilder
import Derived.Test.YtphmgaijkdflnaaDoorRows
import Derived.Test.YtphmgaijkdflnaaDoorTie
import Derived.Test.YtphmgaijkdflnaaDoorCards
import Derived.Deep.DeepHandedRow
import Derived.ProofKit
import Derived.SizedLaws
import Derived.OpenShut
import Derived.ShutString
import Derived.ChangeOld
import Derived.Below
import Derived.SevenTiedAt
import Derived.WalkKit
import Derived.Stop.LaidErr
import Derived.Test.YtphmgaijkdflnaaDoorZt5
section
namespace Go.Proofs.YtphmgaijkdflnaaDoor.H
open Go.RowKit Go.Shelf Go.Proofs.YtphmgaijkdflnaaDoorW.PrintWords Go.Proofs.YtphmgaijkdflnaaDoorW.PrintLast Go.Proofs.YtphmgaijkdflnaaDoorW.PrintMore
open Go.Maps
attribute [local go_sem] Oper.semAt_some
set_option linter.unusedVariables false
set_option linter.unusedSimpArgs false
section
variable (k : Nat) (l0_0 l0_1 : List ByteArray) (l0_2 : List Int) (l0_3 : List S58) (l0_4 : List S61)
def okGo (y : S26) : Option Bool :=
  if y.f2 < 0 then some false else if y.f0 = 0 then some false else if y.f0 = -1 then some false else
  if 0 < y.f0 then cst_rightLeaf.f k l0_0 l0_1 l0_2 l0_3 l0_4 y.f0 y.f1 y.f2 y.f3 y.f4 y.f5 y.f6 else cst_rightInner.f k l0_0 l0_1 l0_2 l0_3 l0_4 y.f0 y.f1 y.f2 y.f3 y.f4 y.f5 y.f6
def allGo : List S26 → Option Bool
  | [] => some true
  | y :: r => (okGo k l0_0 l0_1 l0_2 l0_3 l0_4 y).bind fun b => if b = true then allGo r else some false
def lastGo (k0 k1 : S26) : Option Bool :=
  (cst_rightLeaf.f k l0_0 l0_1 l0_2 l0_3 l0_4 k1.f0 k1.f1 k1.f2 k1.f3 k1.f4 k1.f5 k1.f6).bind fun b => if b = true then (if k1.f2 < 0 then some false else allGo k l0_0 l0_1 l0_2 l0_3 l0_4 (preN k0)) else some false
def kidsGo : List S26 → Option Bool
  | [k0, k1] => if 0 < l0_3.length ∧ 0 < (rd_T58 l0_3 0).f1.length then
      (if k0.f0 = rd (rd_T58 l0_3 0).f1 0 then (if k1.f0 = 0 then lastGo k l0_0 l0_1 l0_2 l0_3 l0_4 k0 k1 else some false) else some false) else none
  | _ => some false
def headGo (x : S26) (z : Int) : Option Bool :=
  if 65536 < z then some false else if x.f0 ≠ -1 then some false else if x.f1 ≠ 0 then some false else if x.f3 ≠ 0 then some false else if x.f2 < 0 then some false else
  if 0 < x.f4.length then some false else if x.f5.toList ≠ [] then some false else kidsGo k l0_0 l0_1 l0_2 l0_3 l0_4 x.f6
def rightGo (x : S26) : Option Bool :=
  (grammar_Right.f k l0_0 l0_1 l0_2 l0_3 l0_4).bind fun t => if t = 0 then ((cst_Size.f x.f0 x.f1 x.f2 x.f3 x.f4 x.f5 x.f6).bind fun z => headGo k l0_0 l0_1 l0_2 l0_3 l0_4 x z) else some false
def cst_Right.f (a1_0 : Int) (a1_1 : Int) (a1_2 : Int) (a1_3 : Int) (l1_4 : List S46) (a1_5 : ByteArray) (l1_6 : List S26) : Option Bool := rightGo k l0_0 l0_1 l0_2 l0_3 l0_4 ⟨a1_0, a1_1, a1_2, a1_3, l1_4, a1_5, l1_6⟩
end
section
variable (l0_0 l0_1 : List ByteArray) (l0_2 : List Int) (l0_3 : List S58) (l0_4 : List S61)
theorem okGo.mono (k : Nat) (y : S26) : LeO (okGo k l0_0 l0_1 l0_2 l0_3 l0_4 y) (okGo (k + 1) l0_0 l0_1 l0_2 l0_3 l0_4 y) := by
  unfold okGo
  exact LeO.ite (LeO.refl _) (LeO.ite (LeO.refl _) (LeO.ite (LeO.refl _) (LeO.ite (cst_rightLeaf.mono _ _ _ _ _ _ _ _ _ _ _ _ k) (cst_rightInner.mono _ _ _ _ _ _ _ _ _ _ _ _ k))))
theorem allGo.mono (k : Nat) : ∀ l : List S26, LeO (allGo k l0_0 l0_1 l0_2 l0_3 l0_4 l) (allGo (k + 1) l0_0 l0_1 l0_2 l0_3 l0_4 l)
  | [] => LeO.refl _
  | y :: r => LeO.bind (okGo.mono _ _ _ _ _ k y) fun b => LeO.ite (allGo.mono k r) (LeO.refl _)
theorem lastGo.mono (k : Nat) (k0 k1 : S26) : LeO (lastGo k l0_0 l0_1 l0_2 l0_3 l0_4 k0 k1) (lastGo (k + 1) l0_0 l0_1 l0_2 l0_3 l0_4 k0 k1) := by
  unfold lastGo
  exact LeO.bind (cst_rightLeaf.mono _ _ _ _ _ _ _ _ _ _ _ _ k) fun b => LeO.ite (LeO.ite (LeO.refl _) (allGo.mono _ _ _ _ _ k _)) (LeO.refl _)
theorem kidsGo.mono (k : Nat) (l : List S26) : LeO (kidsGo k l0_0 l0_1 l0_2 l0_3 l0_4 l) (kidsGo (k + 1) l0_0 l0_1 l0_2 l0_3 l0_4 l) := by
  unfold kidsGo
  split
  · exact LeO.ite (LeO.ite (LeO.ite (lastGo.mono _ _ _ _ _ k _ _) (LeO.refl _)) (LeO.refl _)) (LeO.refl _)
  · exact LeO.refl _
theorem headGo.mono (k : Nat) (x : S26) (z : Int) : LeO (headGo k l0_0 l0_1 l0_2 l0_3 l0_4 x z) (headGo (k + 1) l0_0 l0_1 l0_2 l0_3 l0_4 x z) := by
  unfold headGo
  repeat' first | exact LeO.refl _ | exact kidsGo.mono _ _ _ _ _ k _ | refine LeO.ite ?_ ?_
theorem rightGo.mono (k : Nat) (x : S26) : LeO (rightGo k l0_0 l0_1 l0_2 l0_3 l0_4 x) (rightGo (k + 1) l0_0 l0_1 l0_2 l0_3 l0_4 x) := by
  unfold rightGo
  exact LeO.bind (grammar_Right.mono _ _ _ _ _ k) fun t => LeO.ite (LeO.bind (LeO.refl _) fun z => headGo.mono _ _ _ _ _ k x z) (LeO.refl _)
end
theorem allGo_at (k : Nat) (l0_0 l0_1 : List ByteArray) (l0_2 : List Int) (l0_3 : List S58) (l0_4 : List S61) (y : S26) (post : List S26) {r : Bool} : ∀ pre : List S26, (∀ e ∈ pre, okGo k l0_0 l0_1 l0_2 l0_3 l0_4 e = some true) → allGo k l0_0 l0_1 l0_2 l0_3 l0_4 (pre ++ y :: post) = some r → ∃ b, okGo k l0_0 l0_1 l0_2 l0_3 l0_4 y = some b ∧ (b = false → r = false)
  | [], _, h => by
    obtain ⟨b, h1, h2⟩ := Option.bind_eq_some_iff.1 h
    refine ⟨b, h1, fun e => ?_⟩
    subst e
    simpa using h2.symm
  | e :: pre, hp, h => by
    obtain ⟨b, h1, h2⟩ := Option.bind_eq_some_iff.1 h
    obtain rfl : b = true := by have := hp e List.mem_cons_self; rw [h1] at this; exact Option.some.inj this
    exact allGo_at k _ _ _ _ _ y post pre (fun d hd => hp d (List.mem_cons_of_mem _ hd)) (by simpa using h2)
theorem allGo_all (k : Nat) (l0_0 l0_1 : List ByteArray) (l0_2 : List Int) (l0_3 : List S58) (l0_4 : List S61) : ∀ pre : List S26, (∀ e ∈ pre, okGo k l0_0 l0_1 l0_2 l0_3 l0_4 e = some true) → allGo k l0_0 l0_1 l0_2 l0_3 l0_4 pre = some true
  | [], _ => rfl
  | e :: pre, hp => by
    unfold allGo
    rw [hp e List.mem_cons_self]
    exact allGo_all k _ _ _ _ _ pre (fun d hd => hp d (List.mem_cons_of_mem _ hd))
section
variable {w W : World} {A0 : Option Addr} {c0 : Nat} {l0_0 : List ByteArray} {A1 : Option Addr} {c1 : Nat} {l0_1 : List ByteArray} {A2 : Option Addr} {c2 : Nat} {l0_2 : List Int} {A3 : Option Addr} {c3 : Nat} {l0_3 : List S58} {A4 : Option Addr} {c4 : Nat} {l0_4 : List S61}
theorem InG.leaf {k : Nat} {r : Bool} (G : InG W A0 c0 l0_0 A1 c1 l0_1 A2 c2 l0_2 A3 c3 l0_3 A4 c4 l0_4) {y : S26} {B4 : Option Addr} {d4 : Nat} {B6 : Option Addr} {d6 : Nat} (O : NodeE.Ok W ⟨y, B4, d4, B6, d6⟩) (h : cst_rightLeaf.f k l0_0 l0_1 l0_2 l0_3 l0_4 y.f0 y.f1 y.f2 y.f3 y.f4 y.f5 y.f6 = some r) :
    Calls Tryd.prog 39 #[.agg #[.slice A0 l0_0.length c0, .slice A1 l0_1.length c1, .slice A2 l0_2.length c2, .slice A3 l0_3.length c3, .slice A4 l0_4.length c4], .agg #[.int .i64 y.f0, .int .i64 y.f1, .int .i64 y.f2, .int .i64 y.f3, .slice B4 y.f4.length d4, .string y.f5, .slice B6 y.f6.length d6]] W fun e w' => e = .returned (.bool r) ∧ Below W.heap.size W w' :=
  cst_rightLeaf.calls k _ _ _ _ _ _ _ _ _ _ _ _ _ _ _ _ _ _ _ _ _ _ _ _ _ _ r W G.r0 G.h0 G.r1 G.h1 G.r2 G.h2 G.r3 G.h3 G.r4 G.h4 O.g4 O.l4 O.g6 O.l6 h
theorem InG.inner {k : Nat} {r : Bool} (G : InG W A0 c0 l0_0 A1 c1 l0_1 A2 c2 l0_2 A3 c3 l0_3 A4 c4 l0_4) {y : S26} {B4 : Option Addr} {d4 : Nat} {B6 : Option Addr} {d6 : Nat} (O : NodeE.Ok W ⟨y, B4, d4, B6, d6⟩) (h : cst_rightInner.f k l0_0 l0_1 l0_2 l0_3 l0_4 y.f0 y.f1 y.f2 y.f3 y.f4 y.f5 y.f6 = some r) :
    Calls Tryd.prog 40 #[.agg #[.slice A0 l0_0.length c0, .slice A1 l0_1.length c1, .slice A2 l0_2.length c2, .slice A3 l0_3.length c3, .slice A4 l0_4.length c4], .agg #[.int .i64 y.f0, .int .i64 y.f1, .int .i64 y.f2, .int .i64 y.f3, .slice B4 y.f4.length d4, .string y.f5, .slice B6 y.f6.length d6]] W fun e w' => e = .returned (.bool r) ∧ Below W.heap.size W w' :=
  cst_rightInner.calls k _ _ _ _ _ _ _ _ _ _ _ _ _ _ _ _ _ _ _ _ _ _ _ _ _ _ r W G.r0 G.h0 G.r1 G.h1 G.r2 G.h2 G.r3 G.h3 G.r4 G.h4 O.g4 O.l4 O.g6 O.l6 h
theorem InG.right {k : Nat} {r : Int} (G : InG W A0 c0 l0_0 A1 c1 l0_1 A2 c2 l0_2 A3 c3 l0_3 A4 c4 l0_4) (h : grammar_Right.f k l0_0 l0_1 l0_2 l0_3 l0_4 = some r) :
    Calls Tryd.prog 38 #[.agg #[.slice A0 l0_0.length c0, .slice A1 l0_1.length c1, .slice A2 l0_2.length c2, .slice A3 l0_3.length c3, .slice A4 l0_4.length c4]] W fun e w' => e = .returned (.int .i64 r) ∧ Below W.heap.size W w' :=
  grammar_Right.calls k _ _ _ _ _ _ _ _ _ _ _ _ _ _ _ r W G.r0 G.h0 G.r1 G.h1 G.r2 G.h2 G.r3 G.h3 G.r4 G.h4 h
theorem NodeE.Ok.size {y : S26} {B4 : Option Addr} {d4 : Nat} {B6 : Option Addr} {d6 : Nat} (O : NodeE.Ok W ⟨y, B4, d4, B6, d6⟩) {r : Int} (h : cst_Size.f y.f0 y.f1 y.f2 y.f3 y.f4 y.f5 y.f6 = some r) :
    Calls Tryd.prog 14 #[.agg #[.int .i64 y.f0, .int .i64 y.f1, .int .i64 y.f2, .int .i64 y.f3, .slice B4 y.f4.length d4, .string y.f5, .slice B6 y.f6.length d6]] W fun e w' => e = .returned (.int .i64 r) ∧ Below W.heap.size W w' :=
  cst_Size.calls _ _ _ _ _ _ _ _ _ _ _ r W O.g4 O.l4 O.g6 O.l6 h
end
section
variable {P : Program} {md : Region.Mode} {ops : Array Oper} {Q : Exit → Act → World → Prop} {S : World → Prop} {oi : Oper} {v : Value} {fuel : Nat} {listed : Array Bool} {a : Act} {w : World}
theorem tk (i : Nat) (hi : ops[i]? = some oi) (hQ : ∀ c a w, Q (.panic c) (a.put oi.dst v) w → Q (.panic c) a w) (hS : S w) (hw : Region.wanted oi (yielded ops a.tmps) = true) (hy : ∀ w, S w → (execOp a.eval oi).run P w = .ok (.value v) w)
    (h : wpAnyH P md ops Q S fuel (listed.setIfInBounds i true) (a.put oi.dst v) w) (hs : Region.noSelect ops = true := by kernel_rfl) (hf : Region.free md ops listed i = true := by kernel_rfl) (hr : (Region.ready md ops listed).contains i = true := by kernel_rfl) : wpAnyH P md ops Q S (fuel + 1) listed a w :=
  wpAnyH_take hi hs hf hr hQ (.inl ⟨hw, hy⟩) hS h
theorem tku (i : Nat) (hi : ops[i]? = some oi) (hQ : ∀ c a w, Q (.panic c) (a.put oi.dst undef) w → Q (.panic c) a w) (hS : S w) (hw : Region.wanted oi (yielded ops a.tmps) = false)
    (h : wpAnyH P md ops Q S fuel (listed.setIfInBounds i true) (a.put oi.dst undef) w) (hs : Region.noSelect ops = true := by kernel_rfl) (hf : Region.free md ops listed i = true := by kernel_rfl) (hr : (Region.ready md ops listed).contains i = true := by kernel_rfl) : wpAnyH P md ops Q S (fuel + 1) listed a w :=
  wpAnyH_take hi hs hf hr hQ (.inr ⟨hw, rfl⟩) hS h
end
theorem kc {w W : World} {p : Addr} {v : Value} (hb : Below w.heap.size w W) (h : w.cell? p = some v) : W.cell? p = some v := (hb.cell (World.block_lt_of_cell? w _ h)).trans h
structure RS (w : World) (A0 : Option Addr) (c0 : Nat) (l0_0 : List ByteArray) (A1 : Option Addr) (c1 : Nat) (l0_1 : List ByteArray) (A2 : Option Addr) (c2 : Nat) (l0_2 : List Int) (A3 : Option Addr) (c3 : Nat) (l0_3 : List S58) (A4 : Option Addr) (c4 : Nat) (l0_4 : List S61) (x : S26) (B4 : Option Addr) (d4 : Nat) (B6 : Option Addr) (d6 : Nat) (W : World) : Prop where
  B : Below w.heap.size w W
  g : GB W w.heap.size A0 c0 l0_0 A1 c1 l0_1 A2 c2 l0_2 A3 c3 l0_3 A4 c4 l0_4
  n : W.heap[w.heap.size + 1]? = some (.cells #[.int .i64 x.f0, .int .i64 x.f1, .int .i64 x.f2, .int .i64 x.f3, .slice B4 x.f4.length d4, .string x.f5, .slice B6 x.f6.length d6] 26 (0, 0))
  c : W.heap[w.heap.size + 1 + 1]? = some (.cells #[.bool false] 4 (0, 0))
theorem RS.below {w W W' : World} {A0 : Option Addr} {c0 : Nat} {l0_0 : List ByteArray} {A1 : Option Addr} {c1 : Nat} {l0_1 : List ByteArray} {A2 : Option Addr} {c2 : Nat} {l0_2 : List Int} {A3 : Option Addr} {c3 : Nat} {l0_3 : List S58} {A4 : Option Addr} {c4 : Nat} {l0_4 : List S61} {x : S26} {B4 : Option Addr} {d4 : Nat} {B6 : Option Addr} {d6 : Nat} (h : RS w A0 c0 l0_0 A1 c1 l0_1 A2 c2 l0_2 A3 c3 l0_3 A4 c4 l0_4 x B4 d4 B6 d6 W) (hb : Below W.heap.size W W') : RS w A0 c0 l0_0 A1 c1 l0_1 A2 c2 l0_2 A3 c3 l0_3 A4 c4 l0_4 x B4 d4 B6 d6 W' :=
  ⟨h.B.trans (hb.mono h.B.size), h.g.below hb, blk_below h.n hb, blk_below h.c hb⟩
theorem RS.start (w : World) (A0 : Option Addr) (c0 : Nat) (l0_0 : List ByteArray) (A1 : Option Addr) (c1 : Nat) (l0_1 : List ByteArray) (A2 : Option Addr) (c2 : Nat) (l0_2 : List Int) (A3 : Option Addr) (c3 : Nat) (l0_3 : List S58) (A4 : Option Addr) (c4 : Nat) (l0_4 : List S61) (x : S26) (B4 : Option Addr) (d4 : Nat) (B6 : Option Addr) (d6 : Nat) : RS w A0 c0 l0_0 A1 c1 l0_1 A2 c2 l0_2 A3 c3 l0_3 A4 c4 l0_4 x B4 d4 B6 d6 (((w.alloc (.cells #[.slice A0 l0_0.length c0, .slice A1 l0_1.length c1, .slice A2 l0_2.length c2, .slice A3 l0_3.length c3, .slice A4 l0_4.length c4] 40)).alloc (.cells #[.int .i64 x.f0, .int .i64 x.f1, .int .i64 x.f2, .int .i64 x.f3, .slice B4 x.f4.length d4, .string x.f5, .slice B6 x.f6.length d6] 26)).alloc (.cells #[.bool false] 4)) := by
  obtain ⟨h1, h2, h3, h4, _⟩ := alloc3 w (.cells #[.slice A0 l0_0.length c0, .slice A1 l0_1.length c1, .slice A2 l0_2.length c2, .slice A3 l0_3.length c3, .slice A4 l0_4.length c4] 40) (.cells #[.int .i64 x.f0, .int .i64 x.f1, .int .i64 x.f2, .int .i64 x.f3, .slice B4 x.f4.length d4, .string x.f5, .slice B6 x.f6.length d6] 26) (.cells #[.bool false] 4)
  exact ⟨h1, h2, h3, h4⟩
theorem RS.cells {w W : World} {A0 : Option Addr} {c0 : Nat} {l0_0 : List ByteArray} {A1 : Option Addr} {c1 : Nat} {l0_1 : List ByteArray} {A2 : Option Addr} {c2 : Nat} {l0_2 : List Int} {A3 : Option Addr} {c3 : Nat} {l0_3 : List S58} {A4 : Option Addr} {c4 : Nat} {l0_4 : List S61} {x : S26} {B4 : Option Addr} {d4 : Nat} {B6 : Option Addr} {d6 : Nat} (h : RS w A0 c0 l0_0 A1 c1 l0_1 A2 c2 l0_2 A3 c3 l0_3 A4 c4 l0_4 x B4 d4 B6 d6 W) : W.cell? ⟨w.heap.size + 1, 0, none⟩ = some (.int .i64 x.f0) ∧ W.cell? ⟨w.heap.size + 1, 1, none⟩ = some (.int .i64 x.f1) ∧ W.cell? ⟨w.heap.size + 1, 2, none⟩ = some (.int .i64 x.f2) ∧ W.cell? ⟨w.heap.size + 1, 3, none⟩ = some (.int .i64 x.f3) ∧ W.cell? ⟨w.heap.size + 1, 4, none⟩ = some (.slice B4 x.f4.length d4) ∧ W.cell? ⟨w.heap.size + 1, 5, none⟩ = some (.string x.f5) ∧ W.cell? ⟨w.heap.size + 1, 6, none⟩ = some (.slice B6 x.f6.length d6) ∧ W.cell? ⟨w.heap.size + 1 + 1, 0, none⟩ = some (.bool false) ∧ W.frozen? ⟨w.heap.size + 1 + 1, 0, none⟩ = false :=
  ⟨(blk_cell h.n 0).trans rfl, (blk_cell h.n 1).trans rfl, (blk_cell h.n 2).trans rfl, (blk_cell h.n 3).trans rfl, (blk_cell h.n 4).trans rfl, (blk_cell h.n 5).trans rfl, (blk_cell h.n 6).trans rfl, (blk_cell h.c 0).trans rfl, blk_frozen h.c 0⟩
theorem right_ret0 {w W : World} {tmps : Array Value} {b r : Bool} (h2 : W.heap[w.heap.size + 1 + 1]? = some (.cells #[.bool b] 4 (0, 0))) (hB : Below w.heap.size w W) (hr : b = r) (t4 : tmps[4]? = some (.pointer (some ⟨w.heap.size + 1 + 1, 0, none⟩)) := by rfl) :
    bodyPostM Fence.wide 0 Tryd.prog Tryd.f24 (fun e w' => e = .returned (.bool r) ∧ Below w.heap.size w w') .ret { tmps := tmps, defers := [] } W := by
  subst hr
  have c0 : W.cell? ⟨w.heap.size + 1 + 1, 0, none⟩ = some (.bool b) := (blk_cell h2 0).trans rfl
  exact ⟨.bool b, by simp [results, Tryd.f24, go_sem, c0, t4], rfl, hB⟩
theorem right_end {w W : World} {tmps : Array Value} {D : Nat} {b : Bool} (h2 : W.heap[w.heap.size + 1 + 1]? = some (.cells #[.bool b] 4 (0, 0))) (hD : W.heap[D]? = some (.deferred (some []))) (hB : Below w.heap.size w W) (hd : w.heap.size + 1 + 1 < D)
    {r : Bool} (hr : b = r) (t4 : tmps[4]? = some (.pointer (some ⟨w.heap.size + 1 + 1, 0, none⟩)) := by rfl) :
    bodyPostM Fence.wide 0 Tryd.prog Tryd.f24 (fun e w' => e = .returned (.bool r) ∧ Below w.heap.size w w') .ret { tmps := tmps, defers := [{ target := .collected D, args := #[] }] } W := by
  subst hr
  have k2 : (W.putObj D (.deferred none)).heap[w.heap.size + 1 + 1]? = _ := (World.putObj_heap_other (by omega)).trans h2
  have c0 : (W.putObj D (.deferred none)).cell? ⟨w.heap.size + 1 + 1, 0, none⟩ = some (.bool b) := (blk_cell k2 0).trans rfl
  refine ret_collected2 (v := .bool b) hD ?_ ⟨rfl, below_collected hB (by omega)⟩
  simp [results, Tryd.f24, go_sem, c0, t4]
structure RB (w : World) (A0 : Option Addr) (c0 : Nat) (l0_0 : List ByteArray) (A1 : Option Addr) (c1 : Nat) (l0_1 : List ByteArray) (A2 : Option Addr) (c2 : Nat) (l0_2 : List Int) (A3 : Option Addr) (c3 : Nat) (l0_3 : List S58) (A4 : Option Addr) (c4 : Nat) (l0_4 : List S61) (lo : Nat) (X : Nat → Prop) (W : World) : Prop where
  own : OwnI w lo X W
  far : w.heap.size + 1 + 1 < lo
  g : GB W w.heap.size A0 c0 l0_0 A1 c1 l0_1 A2 c2 l0_2 A3 c3 l0_3 A4 c4 l0_4
  c : W.heap[w.heap.size + 1 + 1]? = some (.cells #[.bool false] 4 (0, 0))
theorem RB.step {w : World} {A0 : Option Addr} {c0 : Nat} {l0_0 : List ByteArray} {A1 : Option Addr} {c1 : Nat} {l0_1 : List ByteArray} {A2 : Option Addr} {c2 : Nat} {l0_2 : List Int} {A3 : Option Addr} {c3 : Nat} {l0_3 : List S58} {A4 : Option Addr} {c4 : Nat} {l0_4 : List S61} {lo : Nat} {X X' : Nat → Prop} {W W' : World} (h : RB w A0 c0 l0_0 A1 c1 l0_1 A2 c2 l0_2 A3 c3 l0_3 A4 c4 l0_4 lo X W) (hs : IStep X W W' X') : RB w A0 c0 l0_0 A1 c1 l0_1 A2 c2 l0_2 A3 c3 l0_3 A4 c4 l0_4 lo X' W' :=
  ⟨h.own.step hs, h.far, h.own.keep hs (by have := h.far; omega) h.g, h.own.keep hs h.far h.c⟩
def RI (w : World) (A0 : Option Addr) (c0 : Nat) (l0_0 : List ByteArray) (A1 : Option Addr) (c1 : Nat) (l0_1 : List ByteArray) (A2 : Option Addr) (c2 : Nat) (l0_2 : List Int) (A3 : Option Addr) (c3 : Nat) (l0_3 : List S58) (A4 : Option Addr) (c4 : Nat) (l0_4 : List S61) (k : Nat) (lo : Nat) (pre : List NodeE) (X : Nat → Prop) (W : World) : Prop := (∀ e ∈ pre, okGo k l0_0 l0_1 l0_2 l0_3 l0_4 e.x = some true) ∧ RB w A0 c0 l0_0 A1 c1 l0_1 A2 c2 l0_2 A3 c3 l0_3 A4 c4 l0_4 lo X W
theorem RI.abides (w : World) (A0 : Option Addr) (c0 : Nat) (l0_0 : List ByteArray) (A1 : Option Addr) (c1 : Nat) (l0_1 : List ByteArray) (A2 : Option Addr) (c2 : Nat) (l0_2 : List Int) (A3 : Option Addr) (c3 : Nat) (l0_3 : List S58) (A4 : Option Addr) (c4 : Nat) (l0_4 : List S61) (k lo : Nat) : Abides (RI w A0 c0 l0_0 A1 c1 l0_1 A2 c2 l0_2 A3 c3 l0_3 A4 c4 l0_4 k lo) := fun pre X W W' X' h hs => ⟨h.1, h.2.step hs⟩
def RX (w : World) (r : Bool) (lo : Nat) (c : Code) (pre : List NodeE) (X : Nat → Prop) (W : World) : Prop := c = .ret ∧ r = false ∧ OwnI w lo X W ∧ w.heap.size + 1 + 1 < lo ∧ W.heap[w.heap.size + 1 + 1]? = some (.cells #[.bool false] 4 (0, 0))
theorem RX.abides (w : World) (r : Bool) (lo : Nat) (c : Code) : Abides (RX w r lo c) := fun pre X W W' X' h hs => ⟨h.1, h.2.1, h.2.2.1.step hs, h.2.2.2.1, h.2.2.1.keep hs h.2.2.2.1 h.2.2.2.2⟩
def RM (w : World) (A0 : Option Addr) (c0 : Nat) (l0_0 : List ByteArray) (A1 : Option Addr) (c1 : Nat) (l0_1 : List ByteArray) (A2 : Option Addr) (c2 : Nat) (l0_2 : List Int) (A3 : Option Addr) (c3 : Nat) (l0_3 : List S58) (A4 : Option Addr) (c4 : Nat) (l0_4 : List S61) (k lo : Nat) (T : Array Value) (pre : List NodeE) (y : NodeE) (a₁ : Act) (X : Nat → Prop) (W : World) : Prop :=
  RI w A0 c0 l0_0 A1 c1 l0_1 A2 c2 l0_2 A3 c3 l0_3 A4 c4 l0_4 k lo pre X W ∧ ∃ bx, W.heap[bx]? = some (.cells y.a 26 (0, 0)) ∧ ¬ X bx ∧ lo ≤ bx ∧ a₁ = { tmps := (T.setIfInBounds 94 y.v).setIfInBounds 5 (.pointer (some ⟨bx, 0, none⟩)), defers := [] }
theorem RM.abides (w : World) (A0 : Option Addr) (c0 : Nat) (l0_0 : List ByteArray) (A1 : Option Addr) (c1 : Nat) (l0_1 : List ByteArray) (A2 : Option Addr) (c2 : Nat) (l0_2 : List Int) (A3 : Option Addr) (c3 : Nat) (l0_3 : List S58) (A4 : Option Addr) (c4 : Nat) (l0_4 : List S61) (k lo : Nat) (T : Array Value) (pre : List NodeE) (y : NodeE) (a₁ : Act) : Abides (fun (_ : Unit) => RM w A0 c0 l0_0 A1 c1 l0_1 A2 c2 l0_2 A3 c3 l0_3 A4 c4 l0_4 k lo T pre y a₁) := fun _ X W W' X' h hs => by
  obtain ⟨hI, bx, h1, h2, h3, h4⟩ := h
  exact ⟨RI.abides w A0 c0 l0_0 A1 c1 l0_1 A2 c2 l0_2 A3 c3 l0_3 A4 c4 l0_4 k lo pre X W W' X' hI hs, bx, hs.keep h1 h2, hs.keepX (Array.getElem?_eq_some_iff.1 h1).1 h2, h3, h4⟩
theorem wp_range_T {α : Type} {P : Program} {g : Operand} {ps : Array Tmp} {assign body : Code} {Q : Exit → Act → World → Prop} {T : Array Value} {D : List Deferred} {w : World}
    {gf : Nat} {lb : Array Value} (hg : ({ tmps := T, defers := D } : Act).eval g = .func (.func gf) #[] lb) (eg : ∀ args w, (callFunc gf args).run P w = .ok (.enter gf args) w)
    {encs : α → Array Value} {K : Nat → Prop} {L : List α} {w0 : World} (hseq : Gives P gf lb encs K L w0) (hb0 : Below w0.heap.size w0 w) (hps : ∀ x, (encs x).size = ps.size)
    (I : List α → (Nat → Prop) → World → Prop) (Ix : Code → List α → (Nat → Prop) → World → Prop) (M : Array Value → List α → α → Act → (Nat → Prop) → World → Prop)
    (hI : Abides I) (hIx : ∀ c, Abides (Ix c)) (hM : ∀ pre x a₁, Abides (fun (_ : Unit) => M T pre x a₁)) (h0 : I [] (fun _ => False) w)
    (hassign : ∀ (l : Nat) (pre : List α) (x : α) (post : List α) (X : Nat → Prop) (W : World), L = pre ++ x :: post → I pre X W → (∀ k, X k → w.heap.size ≤ k ∧ k < W.heap.size) →
      assign.wpIn (Fence.wide.inRound l) 0 P (Exit.then (fun a₁ W₁ => Keeps (fun k => X k ∨ K k) W W₁ ∧ M T pre x a₁ X W₁) (fun _ _ _ => False)) { tmps := (ps.zip (encs x)).foldl (fun t (p, v) => t.setIfInBounds p v) T, defers := [] } W)
    (hbody : ∀ (l : Nat) (pre : List α) (x : α) (post : List α) (a₁ : Act) (X : Nat → Prop) (W : World), L = pre ++ x :: post → M T pre x a₁ X W → (∀ k, X k → w.heap.size ≤ k ∧ k < W.heap.size) →
      body.wpIn (Fence.wide.inRound l) 0 P (bodyEnds (fun k => X k ∨ K k) X I Ix (pre ++ [x]) W) a₁ W)
    (hdone : ∀ (X : Nat → Prop) (W : World), I L X W → X w.heap.size → (∀ k, X k → w.heap.size ≤ k ∧ k < W.heap.size) → W.heap[w.heap.size]? = some (.deferred (some [])) → Q .normal { tmps := T, defers := { target := .collected w.heap.size, args := #[] } :: D } W)
    (hstop : ∀ (c : Code) (pre : List α) (X : Nat → Prop) (W : World), pre <+: L → Ix c pre X W → X w.heap.size → W.heap[w.heap.size]? = some (.deferred (some [])) → c.wpIn Fence.wide 0 P Q { tmps := T, defers := { target := .collected w.heap.size, args := #[] } :: D } W) :
    (Code.rangeFunc g ps assign body).wpIn Fence.wide 0 P Q { tmps := T, defers := D } w :=
  wp_range hg eg hseq hb0 hps I Ix (M T) hI hIx hM h0 hassign hbody hdone hstop
set_option maxRecDepth 100000 in
set_option maxHeartbeats 8000000 in
theorem cst_Right.calls (k : Nat) (A0_0 : Option Addr) (c0_0 : Nat) (l0_0 : List ByteArray) (A0_1 : Option Addr) (c0_1 : Nat) (l0_1 : List ByteArray) (A0_2 : Option Addr) (c0_2 : Nat) (l0_2 : List Int) (A0_3 : Option Addr) (c0_3 : Nat) (l0_3 : List S58) (A0_4 : Option Addr) (c0_4 : Nat) (l0_4 : List S61) (a1_0 : Int) (a1_1 : Int) (a1_2 : Int) (a1_3 : Int) (A1_4 : Option Addr) (c1_4 : Nat) (l1_4 : List S46) (a1_5 : ByteArray) (A1_6 : Option Addr) (c1_6 : Nat) (l1_6 : List S26) (r : Bool) (w : World) (hr0_0 : Kd.C Kd.string w A0_0 l0_0.length l0_0) (hc0_0 : l0_0.length ≤ c0_0) (hr0_1 : Kd.C Kd.string w A0_1 l0_1.length l0_1) (hc0_1 : l0_1.length ≤ c0_1) (hr0_2 : Kd.C (Kd.int .i64) w A0_2 l0_2.length l0_2) (hc0_2 : l0_2.length ≤ c0_2) (hr0_3 : Kd.C k58 w A0_3 l0_3.length l0_3) (hc0_3 : l0_3.length ≤ c0_3) (hr0_4 : Kd.C k61 w A0_4 l0_4.length l0_4) (hc0_4 : l0_4.length ≤ c0_4) (hr1_4 : Kd.C k46 w A1_4 l1_4.length l1_4) (hc1_4 : l1_4.length ≤ c1_4) (hr1_6 : Kd.C k26 w A1_6 l1_6.length l1_6) (hc1_6 : l1_6.length ≤ c1_6) (h : cst_Right.f k l0_0 l0_1 l0_2 l0_3 l0_4 a1_0 a1_1 a1_2 a1_3 l1_4 a1_5 l1_6 = some r) :
    Calls Tryd.prog 24 #[.agg #[.slice A0_0 l0_0.length c0_0, .slice A0_1 l0_1.length c0_1, .slice A0_2 l0_2.length c0_2, .slice A0_3 l0_3.length c0_3, .slice A0_4 l0_4.length c0_4], .agg #[.int .i64 a1_0, .int .i64 a1_1, .int .i64 a1_2, .int .i64 a1_3, .slice A1_4 l1_4.length c1_4, .string a1_5, .slice A1_6 l1_6.length c1_6]] w fun e w' => e = .returned (.bool r) ∧ Below w.heap.size w w' := by
  unfold cst_Right.f at h
  obtain ⟨x, hx⟩ : ∃ x : S26, x = ⟨a1_0, a1_1, a1_2, a1_3, l1_4, a1_5, l1_6⟩ := ⟨_, rfl⟩
  rw [← hx] at h
  obtain rfl : a1_0 = x.f0 := by rw [hx]
  obtain rfl : a1_1 = x.f1 := by rw [hx]
  obtain rfl : a1_2 = x.f2 := by rw [hx]
  obtain rfl : a1_3 = x.f3 := by rw [hx]
  obtain rfl : l1_4 = x.f4 := by rw [hx]
  obtain rfl : a1_5 = x.f5 := by rw [hx]
  obtain rfl : l1_6 = x.f6 := by rw [hx]
  clear hx
  have HOK := Aside0.mk (show NodeE.Ok w ⟨x, A1_4, c1_4, A1_6, c1_6⟩ from ⟨hc1_4, hr1_4, hc1_6, hr1_6⟩)
  have HG := Aside0.mk (InG.mk hr0_0 hc0_0 hr0_1 hc0_1 hr0_2 hc0_2 hr0_3 hc0_3 hr0_4 hc0_4)
  clear hr0_0 hc0_0 hr0_1 hc0_1 hr0_2 hc0_2 hr0_3 hc0_3 hr0_4 hc0_4 hr1_4 hc1_4 hr1_6 hc1_6
  have S0 := Aside0.mk (RS.start w A0_0 c0_0 l0_0 A0_1 c0_1 l0_1 A0_2 c0_2 l0_2 A0_3 c0_3 l0_3 A0_4 c0_4 l0_4 x A1_4 c1_4 A1_6 c1_6)
  obtain ⟨t, ht, h⟩ := Option.bind_eq_some_iff.1 h
  have HT := Aside0.mk ht
  clear ht
  have bad : ∀ {W : World} {tmps : Array Value}, RS w A0_0 c0_0 l0_0 A0_1 c0_1 l0_1 A0_2 c0_2 l0_2 A0_3 c0_3 l0_3 A0_4 c0_4 l0_4 x A1_4 c1_4 A1_6 c1_6 W → r = false → tmps[4]? = some (.pointer (some ⟨w.heap.size + 1 + 1, 0, none⟩)) → bodyPostM Fence.wide 0 Tryd.prog Tryd.f24 (fun e w' => e = .returned (.bool r) ∧ Below w.heap.size w w') .ret { tmps := tmps, defers := [] } (W.setCell ⟨w.heap.size + 1 + 1, 0, none⟩ (.bool false)) := fun S hr t4 =>
    right_ret0 (b := false) (by have := blk_put S.c 0 (.bool false) rfl; simpa using this) (S.B.setCell (by simp <;> omega) _) hr.symm t4
  have BAD := Aside0.mk @bad
  clear bad
  refine (callsIn_wide (n := 0)).1 ?_
  refine callsIn_of_wp_marks Tryd.func24 rfl trivial ?_ rfl
  simp only [Tryd.ntmps24, List.size_toArray, List.length_cons, List.length_nil, Nat.reduceAdd, Nat.reduceSub, Array.replicate_succ, Array.replicate_zero, List.push_toArray, List.append_toArray, List.nil_append, List.cons_append]
  refine wpIn_wide.2 ?_
  by_cases c1 : t = 0
  case neg =>
    rw [if_neg c1] at h
    obtain rfl := Option.some.inj h
    have c1b : (t == 0) = false := beq_eq_false_iff_ne.mpr c1
    have c1c : (t != 0) = true := bne_iff_ne.mpr c1
    clear c1 h
    go_wp2_with (go_at_call 38; refine (InG.right (HG.out.below S0.out.B) HT.out).mono ?_; rintro e w1 ⟨rfl, hb⟩; have S1 := Aside0.mk (S0.out.below hb); clear hb; obtain ⟨n0, n1, n2, n3, n4, n5, n6, z1, z2⟩ := S1.out.cells)
    exact BAD.out S1.out (by first | rfl | trivial) rfl
  subst c1
  rw [if_pos rfl] at h
  obtain ⟨z, hz, h⟩ := Option.bind_eq_some_iff.1 h
  have HZ := Aside0.mk hz
  clear hz
  unfold headGo at h
  by_cases d0 : 65536 < z
  case pos =>
    rw [if_pos d0] at h
    obtain rfl := Option.some.inj h
    have d0b0 : decide (65536 < z) = true := by first | (simpa using d0) | (simp; omega)
    clear d0 h
    go_wp2_with (first | (go_at_call 38; refine (InG.right (HG.out.below S0.out.B) HT.out).mono ?_; rintro e w1 ⟨rfl, hb⟩; have S1 := Aside0.mk (S0.out.below hb); clear hb; obtain ⟨n0, n1, n2, n3, n4, n5, n6, z1, z2⟩ := S1.out.cells) | (go_at_call 14; refine (NodeE.Ok.size (HOK.out.step (fun k q => S1.out.B.block k q)) HZ.out).mono ?_; rintro e w2 ⟨rfl, hb⟩; have S2 := Aside0.mk (S1.out.below hb); clear hb; clear n0 n1 n2 n3 n4 n5 n6 z1 z2; obtain ⟨n0, n1, n2, n3, n4, n5, n6, z1, z2⟩ := S2.out.cells))
    exact BAD.out S2.out (by first | rfl | trivial) rfl
  rw [if_neg d0] at h
  have d0b0 : decide (65536 < z) = false := by first | (simpa using d0) | (simp; omega)
  clear d0
  by_cases d1 : x.f0 ≠ -1
  case pos =>
    rw [if_pos d1] at h
    obtain rfl := Option.some.inj h
    have d1b0 : (x.f0 != (-1)) = true := by first | (simpa using d1) | (simp; omega)
    have d1b1 : (x.f0 == (-1)) = false := by first | (simpa using d1) | (simp; omega)
    clear d1 h
    go_wp2_with (first | (go_at_call 38; refine (InG.right (HG.out.below S0.out.B) HT.out).mono ?_; rintro e w1 ⟨rfl, hb⟩; have S1 := Aside0.mk (S0.out.below hb); clear hb; obtain ⟨n0, n1, n2, n3, n4, n5, n6, z1, z2⟩ := S1.out.cells) | (go_at_call 14; refine (NodeE.Ok.size (HOK.out.step (fun k q => S1.out.B.block k q)) HZ.out).mono ?_; rintro e w2 ⟨rfl, hb⟩; have S2 := Aside0.mk (S1.out.below hb); clear hb; clear n0 n1 n2 n3 n4 n5 n6 z1 z2; obtain ⟨n0, n1, n2, n3, n4, n5, n6, z1, z2⟩ := S2.out.cells))
    exact BAD.out S2.out (by first | rfl | trivial) rfl
  rw [if_neg d1] at h
  have d1b0 : (x.f0 != (-1)) = false := by first | (simpa using d1) | (simp; omega)
  have d1b1 : (x.f0 == (-1)) = true := by first | (simpa using d1) | (simp; omega)
  clear d1
  by_cases d2 : x.f1 ≠ 0
  case pos =>
    rw [if_pos d2] at h
    obtain rfl := Option.some.inj h
    have d2b0 : (x.f1 != 0) = true := by first | (simpa using d2) | (simp; omega)
    have d2b1 : (x.f1 == 0) = false := by first | (simpa using d2) | (simp; omega)
    clear d2 h
    go_wp2_with (first | (go_at_call 38; refine (InG.right (HG.out.below S0.out.B) HT.out).mono ?_; rintro e w1 ⟨rfl, hb⟩; have S1 := Aside0.mk (S0.out.below hb); clear hb; obtain ⟨n0, n1, n2, n3, n4, n5, n6, z1, z2⟩ := S1.out.cells) | (go_at_call 14; refine (NodeE.Ok.size (HOK.out.step (fun k q => S1.out.B.block k q)) HZ.out).mono ?_; rintro e w2 ⟨rfl, hb⟩; have S2 := Aside0.mk (S1.out.below hb); clear hb; clear n0 n1 n2 n3 n4 n5 n6 z1 z2; obtain ⟨n0, n1, n2, n3, n4, n5, n6, z1, z2⟩ := S2.out.cells))
    exact BAD.out S2.out (by first | rfl | trivial) rfl
  rw [if_neg d2] at h
  have d2b0 : (x.f1 != 0) = false := by first | (simpa using d2) | (simp; omega)
  have d2b1 : (x.f1 == 0) = true := by first | (simpa using d2) | (simp; omega)
  clear d2
  by_cases d3 : x.f3 ≠ 0
  case pos =>
    rw [if_pos d3] at h
    obtain rfl := Option.some.inj h
    have d3b0 : (x.f3 != 0) = true := by first | (simpa using d3) | (simp; omega)
    have d3b1 : (x.f3 == 0) = false := by first | (simpa using d3) | (simp; omega)
    clear d3 h
    go_wp2_with (first | (go_at_call 38; refine (InG.right (HG.out.below S0.out.B) HT.out).mono ?_; rintro e w1 ⟨rfl, hb⟩; have S1 := Aside0.mk (S0.out.below hb); clear hb; obtain ⟨n0, n1, n2, n3, n4, n5, n6, z1, z2⟩ := S1.out.cells) | (go_at_call 14; refine (NodeE.Ok.size (HOK.out.step (fun k q => S1.out.B.block k q)) HZ.out).mono ?_; rintro e w2 ⟨rfl, hb⟩; have S2 := Aside0.mk (S1.out.below hb); clear hb; clear n0 n1 n2 n3 n4 n5 n6 z1 z2; obtain ⟨n0, n1, n2, n3, n4, n5, n6, z1, z2⟩ := S2.out.cells))
    exact BAD.out S2.out (by first | rfl | trivial) rfl
  rw [if_neg d3] at h
  have d3b0 : (x.f3 != 0) = false := by first | (simpa using d3) | (simp; omega)
  have d3b1 : (x.f3 == 0) = true := by first | (simpa using d3) | (simp; omega)
  clear d3
  by_cases d4 : x.f2 < 0
  case pos =>
    rw [if_pos d4] at h
    obtain rfl := Option.some.inj h
    have d4b0 : decide (x.f2 < 0) = true := by first | (simpa using d4) | (simp; omega)
    clear d4 h
    go_wp2_with (first | (go_at_call 38; refine (InG.right (HG.out.below S0.out.B) HT.out).mono ?_; rintro e w1 ⟨rfl, hb⟩; have S1 := Aside0.mk (S0.out.below hb); clear hb; obtain ⟨n0, n1, n2, n3, n4, n5, n6, z1, z2⟩ := S1.out.cells) | (go_at_call 14; refine (NodeE.Ok.size (HOK.out.step (fun k q => S1.out.B.block k q)) HZ.out).mono ?_; rintro e w2 ⟨rfl, hb⟩; have S2 := Aside0.mk (S1.out.below hb); clear hb; clear n0 n1 n2 n3 n4 n5 n6 z1 z2; obtain ⟨n0, n1, n2, n3, n4, n5, n6, z1, z2⟩ := S2.out.cells))
    exact BAD.out S2.out (by first | rfl | trivial) rfl
  rw [if_neg d4] at h
  have d4b0 : decide (x.f2 < 0) = false := by first | (simpa using d4) | (simp; omega)
  clear d4
  by_cases d5 : 0 < x.f4.length
  case pos =>
    rw [if_pos d5] at h
    obtain rfl := Option.some.inj h
    have d5b0 : decide (0 < (x.f4.length : Int)) = true := by first | (simpa using d5) | (simp; omega)
    have d5b1 : decide (0 < x.f4.length) = true := by first | (simpa using d5) | (simp; omega)
    clear d5 h
    go_wp2_with (first | (go_at_call 38; refine (InG.right (HG.out.below S0.out.B) HT.out).mono ?_; rintro e w1 ⟨rfl, hb⟩; have S1 := Aside0.mk (S0.out.below hb); clear hb; obtain ⟨n0, n1, n2, n3, n4, n5, n6, z1, z2⟩ := S1.out.cells) | (go_at_call 14; refine (NodeE.Ok.size (HOK.out.step (fun k q => S1.out.B.block k q)) HZ.out).mono ?_; rintro e w2 ⟨rfl, hb⟩; have S2 := Aside0.mk (S1.out.below hb); clear hb; clear n0 n1 n2 n3 n4 n5 n6 z1 z2; obtain ⟨n0, n1, n2, n3, n4, n5, n6, z1, z2⟩ := S2.out.cells))
    exact BAD.out S2.out (by first | rfl | trivial) rfl
  rw [if_neg d5] at h
  have d5b0 : decide (0 < (x.f4.length : Int)) = false := by first | (simpa using d5) | (simp; omega)
  have d5b1 : decide (0 < x.f4.length) = false := by first | (simpa using d5) | (simp; omega)
  clear d5
  by_cases d6 : x.f5.toList ≠ []
  case pos =>
    rw [if_pos d6] at h
    obtain rfl := Option.some.inj h
    have d6b0 : (x.f5.toList != ([] : List UInt8)) = true := by first | (simpa using d6) | (simp; omega)
    have d6b1 : (x.f5.toList == ([] : List UInt8)) = false := by first | (simpa using d6) | (simp; omega)
    clear d6 h
    go_wp2_with (first | (go_at_call 38; refine (InG.right (HG.out.below S0.out.B) HT.out).mono ?_; rintro e w1 ⟨rfl, hb⟩; have S1 := Aside0.mk (S0.out.below hb); clear hb; obtain ⟨n0, n1, n2, n3, n4, n5, n6, z1, z2⟩ := S1.out.cells) | (go_at_call 14; refine (NodeE.Ok.size (HOK.out.step (fun k q => S1.out.B.block k q)) HZ.out).mono ?_; rintro e w2 ⟨rfl, hb⟩; have S2 := Aside0.mk (S1.out.below hb); clear hb; clear n0 n1 n2 n3 n4 n5 n6 z1 z2; obtain ⟨n0, n1, n2, n3, n4, n5, n6, z1, z2⟩ := S2.out.cells))
    exact BAD.out S2.out (by first | rfl | trivial) rfl
  rw [if_neg d6] at h
  have d6b0 : (x.f5.toList != ([] : List UInt8)) = false := by first | (simpa using d6) | (simp; omega)
  have d6b1 : (x.f5.toList == ([] : List UInt8)) = true := by first | (simpa using d6) | (simp; omega)
  clear d6
  have HH := Aside0.mk h
  clear h
  go_wp2_with (first | (go_at_call 38; refine (InG.right (HG.out.below S0.out.B) HT.out).mono ?_; rintro e w1 ⟨rfl, hb⟩; have S1 := Aside0.mk (S0.out.below hb); clear hb; obtain ⟨n0, n1, n2, n3, n4, n5, n6, z1, z2⟩ := S1.out.cells) | (go_at_call 14; refine (NodeE.Ok.size (HOK.out.step (fun k q => S1.out.B.block k q)) HZ.out).mono ?_; rintro e w2 ⟨rfl, hb⟩; have S2 := Aside0.mk (S1.out.below hb); clear hb; clear n0 n1 n2 n3 n4 n5 n6 z1 z2; obtain ⟨n0, n1, n2, n3, n4, n5, n6, z1, z2⟩ := S2.out.cells))
  by_cases hl : x.f6.length = 2
  case neg =>
    have hr : r = false := by
      have h := HH.out
      generalize x.f6 = l at h hl
      match l, h, hl with
      | [], h, _ => exact (Option.some.inj h).symm
      | [_], h, _ => exact (Option.some.inj h).symm
      | [_, _], _, hl => exact absurd rfl hl
      | _ :: _ :: _ :: _, h, _ => exact (Option.some.inj h).symm
    subst hr
    have l1 : ((x.f6.length : Int) != 2) = true := by rw [bne_iff_ne]; omega
    have l2 : ((x.f6.length : Int) == 2) = false := by rw [beq_eq_false_iff_ne]; omega
    clear hl
    go_quiet (fail)
    go_wp2
    exact BAD.out (S2.out.below (by repeat (first | exact Below.refl _ _ | apply below_alloc | apply pw_below_drewN | apply below_drew1))) (by first | rfl | trivial) rfl
  obtain ⟨k0, k1, hk⟩ : ∃ k0 k1, x.f6 = [k0, k1] := by
    generalize x.f6 = l at hl
    match l, hl with
    | [a, b], _ => exact ⟨a, b, rfl⟩
  obtain ⟨ad, d0, ea, hd0, O0, q0⟩ := kid_at HOK.out 0 (by show 0 < x.f6.length; omega)
  obtain ⟨ad', d1, eb, hd1, O1, q1⟩ := kid_at HOK.out 1 (by show 1 < x.f6.length; omega)
  have ea' : A1_6 = some ad := ea
  have eb' : A1_6 = some ad' := eb
  obtain rfl : ad = ad' := by rw [ea'] at eb'; exact Option.some.inj eb'
  clear ea eb eb'
  subst ea'
  obtain ⟨x0, B4, d4, B6, d6⟩ := d0
  obtain ⟨x1, C4, e4, C6, e6⟩ := d1
  dsimp only at hd0 hd1
  have hh := HH.out
  clear HH
  rw [hk] at hh
  obtain rfl : k0 = x0 := by rw [hd0]; simp [hk]
  obtain rfl : k1 = x1 := by rw [hd1]; simp [hk]
  clear hd0 hd1
  rw [hl] at n6
  unfold kidsGo at hh
  dsimp only at hh
  by_cases hp : 0 < l0_3.length ∧ 0 < (rd_T58 l0_3 0).f1.length
  case neg => rw [if_neg hp] at hh; cases hh
  rw [if_pos hp] at hh
  obtain ⟨hp1, hp2⟩ := hp
  obtain ⟨ar, R1, s1, R2, s2, er, _, hr1, _, _, _, hlr, hir, _, _⟩ := at_T58 HG.out.r3 0 (by omega) (by omega)
  obtain rfl : A0_3 = some ar := er
  obtain ⟨af, ef, hf⟩ := Kd.at_int hir 0 (by omega) (by omega)
  obtain rfl : R1 = some af := ef
  have f1 : w2.cell? ⟨ar.block, ar.off + 1, none⟩ = some (.slice (some af) (rd_T58 l0_3 0).f1.length s1) := by
    rw [show ((0 : Int)).toNat * 5 = 0 from rfl, Addr.add_zero'] at hr1
    exact kc S2.out.B hr1
  have f2 : w2.cell? af = some (.int .i64 (rd (rd_T58 l0_3 0).f1 0)) := by
    first | (rw [show ((0 : Int)).toNat = 0 from rfl, Addr.add_zero'] at hf; exact kc S2.out.B hf) | exact kc S2.out.B hf
  clear hr1 hf hlr hir hl
  have p0 : w2.cell? ad = some (.int .i64 k0.f0) := by have h_ := q0 0 _ rfl; rw [show 0 * 7 + 0 = 0 from rfl, Addr.add_zero'] at h_; exact kc S2.out.B h_
  have p1 : w2.cell? ⟨ad.block, ad.off + 1, none⟩ = some (.int .i64 k0.f1) := by have h_ := q0 1 _ rfl; rw [add_field _ _ 1 (by omega), show 0 * 7 = 0 from rfl, Addr.add_zero'] at h_; exact kc S2.out.B h_
  have p2 : w2.cell? ⟨ad.block, ad.off + 2, none⟩ = some (.int .i64 k0.f2) := by have h_ := q0 2 _ rfl; rw [add_field _ _ 2 (by omega), show 0 * 7 = 0 from rfl, Addr.add_zero'] at h_; exact kc S2.out.B h_
  have p3 : w2.cell? ⟨ad.block, ad.off + 3, none⟩ = some (.int .i64 k0.f3) := by have h_ := q0 3 _ rfl; rw [add_field _ _ 3 (by omega), show 0 * 7 = 0 from rfl, Addr.add_zero'] at h_; exact kc S2.out.B h_
  have p4 : w2.cell? ⟨ad.block, ad.off + 4, none⟩ = some (.slice B4 k0.f4.length d4) := by have h_ := q0 4 _ rfl; rw [add_field _ _ 4 (by omega), show 0 * 7 = 0 from rfl, Addr.add_zero'] at h_; exact kc S2.out.B h_
  have p5 : w2.cell? ⟨ad.block, ad.off + 5, none⟩ = some (.string k0.f5) := by have h_ := q0 5 _ rfl; rw [add_field _ _ 5 (by omega), show 0 * 7 = 0 from rfl, Addr.add_zero'] at h_; exact kc S2.out.B h_
  have p6 : w2.cell? ⟨ad.block, ad.off + 6, none⟩ = some (.slice B6 k0.f6.length d6) := by have h_ := q0 6 _ rfl; rw [add_field _ _ 6 (by omega), show 0 * 7 = 0 from rfl, Addr.add_zero'] at h_; exact kc S2.out.B h_
  have r0 : w2.cell? ⟨ad.block, ad.off + 7, none⟩ = some (.int .i64 k1.f0) := by have h_ := q1 0 _ rfl; rw [show 1 * 7 + 0 = 0 + 7 from rfl, add_field _ _ 7 (by omega), Addr.add_zero'] at h_; exact kc S2.out.B h_
  have r1 : w2.cell? ⟨ad.block, ad.off + 7 + 1, none⟩ = some (.int .i64 k1.f1) := by have h_ := q1 1 _ rfl; rw [show 1 * 7 + 1 = 0 + 8 from rfl, add_field _ _ 8 (by omega), Addr.add_zero'] at h_; exact kc S2.out.B h_
  have r2 : w2.cell? ⟨ad.block, ad.off + 7 + 2, none⟩ = some (.int .i64 k1.f2) := by have h_ := q1 2 _ rfl; rw [show 1 * 7 + 2 = 0 + 9 from rfl, add_field _ _ 9 (by omega), Addr.add_zero'] at h_; exact kc S2.out.B h_
  have r3 : w2.cell? ⟨ad.block, ad.off + 7 + 3, none⟩ = some (.int .i64 k1.f3) := by have h_ := q1 3 _ rfl; rw [show 1 * 7 + 3 = 0 + 10 from rfl, add_field _ _ 10 (by omega), Addr.add_zero'] at h_; exact kc S2.out.B h_
  have r4 : w2.cell? ⟨ad.block, ad.off + 7 + 4, none⟩ = some (.slice C4 k1.f4.length e4) := by have h_ := q1 4 _ rfl; rw [show 1 * 7 + 4 = 0 + 11 from rfl, add_field _ _ 11 (by omega), Addr.add_zero'] at h_; exact kc S2.out.B h_
  have r5 : w2.cell? ⟨ad.block, ad.off + 7 + 5, none⟩ = some (.string k1.f5) := by have h_ := q1 5 _ rfl; rw [show 1 * 7 + 5 = 0 + 12 from rfl, add_field _ _ 12 (by omega), Addr.add_zero'] at h_; exact kc S2.out.B h_
  have r6 : w2.cell? ⟨ad.block, ad.off + 7 + 6, none⟩ = some (.slice C6 k1.f6.length e6) := by have h_ := q1 6 _ rfl; rw [show 1 * 7 + 6 = 0 + 13 from rfl, add_field _ _ 13 (by omega), Addr.add_zero'] at h_; exact kc S2.out.B h_
  have g0 : w2.cell? ⟨w.heap.size, 0, none⟩ = some (.slice A0_0 l0_0.length c0_0) := (blk_cell S2.out.g 0).trans rfl
  have g1 : w2.cell? ⟨w.heap.size, 1, none⟩ = some (.slice A0_1 l0_1.length c0_1) := (blk_cell S2.out.g 1).trans rfl
  have g2 : w2.cell? ⟨w.heap.size, 2, none⟩ = some (.slice A0_2 l0_2.length c0_2) := (blk_cell S2.out.g 2).trans rfl
  have g3 : w2.cell? ⟨w.heap.size, 3, none⟩ = some (.slice (some ar) l0_3.length c0_3) := (blk_cell S2.out.g 3).trans rfl
  have g4 : w2.cell? ⟨w.heap.size, 4, none⟩ = some (.slice A0_4 l0_4.length c0_4) := (blk_cell S2.out.g 4).trans rfl
  have HO0 := Aside0.mk O0
  have HO1 := Aside0.mk O1
  have HKE := Aside0.mk hk
  clear q0 q1 O0 O1 hk
  have i1 : (0 : Int) < (l0_3.length : Int) := by omega
  have i2 : (0 : Int) < ((rd_T58 l0_3 0).f1.length : Int) := by omega
  obtain ⟨s, hs⟩ : ∃ s, rd (rd_T58 l0_3 0).f1 0 = s := ⟨_, rfl⟩
  obtain ⟨ln, hln⟩ : ∃ ln, (rd_T58 l0_3 0).f1.length = ln := ⟨_, rfl⟩
  rw [hs] at f2 hh
  rw [hln] at f1 i2 hp2
  clear hs hln
  by_cases c3 : k0.f0 = s
  case neg =>
    rw [if_neg c3] at hh
    obtain rfl := Option.some.inj hh
    have c3b : (k0.f0 != s) = true := bne_iff_ne.mpr c3
    have c3c : (k0.f0 == s) = false := beq_eq_false_iff_ne.mpr c3
    clear c3 hh
    go_quiet (fail)
    go_wp2
    exact BAD.out (S2.out.below (by repeat (first | exact Below.refl _ _ | apply below_alloc | apply pw_below_drewN | apply below_drew1))) (by first | rfl | trivial) rfl
  rw [if_pos c3] at hh
  have c3b : (k0.f0 != s) = false := bne_eq_false_iff_eq.mpr c3
  have c3c : (k0.f0 == s) = true := beq_iff_eq.mpr c3
  clear c3
  by_cases c4 : k1.f0 = 0
  case neg =>
    rw [if_neg c4] at hh
    obtain rfl := Option.some.inj hh
    have c4b : (k1.f0 != 0) = true := bne_iff_ne.mpr c4
    have c4c : (k1.f0 == 0) = false := beq_eq_false_iff_ne.mpr c4
    clear c4 hh
    go_quiet (fail)
    go_wp2
    exact BAD.out (S2.out.below (by repeat (first | exact Below.refl _ _ | apply below_alloc | apply pw_below_drewN | apply below_drew1))) (by first | rfl | trivial) rfl
  rw [if_pos c4] at hh
  have c4b : (k1.f0 != 0) = false := bne_eq_false_iff_eq.mpr c4
  have c4c : (k1.f0 == 0) = true := beq_iff_eq.mpr c4
  clear c4
  unfold lastGo at hh
  obtain ⟨b, hb0, hh⟩ := Option.bind_eq_some_iff.1 hh
  have HLF := Aside0.mk hb0
  clear hb0
  cases b
  case false =>
    obtain rfl : false = r := by simpa using hh
    clear hh
    refine wp_region_noPanic ?_
    refine wp_region_held_drew (S := fun w' => w'.cell? ⟨w.heap.size + 1, 6, none⟩ = some (.slice (some ad) 2 c1_6) ∧ w'.cell? ad = some (.int .i64 k0.f0) ∧ w'.cell? ⟨ar.block, ar.off + 1, none⟩ = some (.slice (some af) ln s1) ∧ w'.cell? af = some (.int .i64 s) ∧ w'.cell? ⟨w.heap.size, 0, none⟩ = some (.slice A0_0 l0_0.length c0_0) ∧ w'.cell? ⟨w.heap.size, 1, none⟩ = some (.slice A0_1 l0_1.length c0_1) ∧ w'.cell? ⟨w.heap.size, 2, none⟩ = some (.slice A0_2 l0_2.length c0_2) ∧ w'.cell? ⟨w.heap.size, 3, none⟩ = some (.slice (some ar) l0_3.length c0_3) ∧ w'.cell? ⟨w.heap.size, 4, none⟩ = some (.slice A0_4 l0_4.length c0_4) ∧ w'.cell? ⟨ad.block, ad.off + 7, none⟩ = some (.int .i64 k1.f0) ∧ w'.cell? ⟨ad.block, ad.off + 7 + 1, none⟩ = some (.int .i64 k1.f1) ∧ w'.cell? ⟨ad.block, ad.off + 7 + 2, none⟩ = some (.int .i64 k1.f2) ∧ w'.cell? ⟨ad.block, ad.off + 7 + 3, none⟩ = some (.int .i64 k1.f3) ∧ w'.cell? ⟨ad.block, ad.off + 7 + 4, none⟩ = some (.slice C4 k1.f4.length e4) ∧ w'.cell? ⟨ad.block, ad.off + 7 + 5, none⟩ = some (.string k1.f5) ∧ w'.cell? ⟨ad.block, ad.off + 7 + 6, none⟩ = some (.slice C6 k1.f6.length e6)) (by kernel_rfl) ?hS (fun hHeld => ?_)
    case hS => ((try dsimp only); first | go_keep | (simp [*]; done))
    refine tk 0 (oi := { dst := some 45, op := Op.fieldAddr 26 (Operand.tmp 3) 6, type := 0, pos := "cst.go:166", after := #[], guard := none }) (v := ?_) rfl (fun _ _ _ h => h) hHeld (by rfl) ?hy ?_
    case hy => (intro w' hSw; (try dsimp only at hSw); first | (go_simp; done) | (go_simp; with_reducible rfl))
    (try simp only [Act.put, List.setIfInBounds_toArray, List.set_cons_zero, List.set_cons_succ])
    refine tk 1 (oi := { dst := some 46, op := Op.load 24 (Operand.tmp 45), type := 24, pos := "cst.go:166", after := #[{ on := 0, ground := Ground.data }], guard := none }) (v := ?_) rfl (fun _ _ _ h => h) hHeld (by rfl) ?hy ?_
    case hy => (intro w' hSw; (try dsimp only at hSw); first | (go_simp; done) | (go_simp; with_reducible rfl))
    (try simp only [Act.put, List.setIfInBounds_toArray, List.set_cons_zero, List.set_cons_succ])
    refine tk 2 (oi := { dst := some 47, op := Op.call { callee := Callee.builtin Builtin.len, args := #[Operand.tmp 46], argTypes := #[24] }, type := 3, pos := "cst.go:166", after := #[{ on := 1, ground := Ground.data }], guard := none }) (v := ?_) rfl (fun _ _ _ h => h) hHeld (by rfl) ?hy ?_
    case hy => (intro w' hSw; (try dsimp only at hSw); first | (go_simp; done) | (go_simp; with_reducible rfl))
    (try simp only [Act.put, List.setIfInBounds_toArray, List.set_cons_zero, List.set_cons_succ])
    refine tk 3 (oi := { dst := some 48, op := Op.binOp BinOp.neq 3 (Operand.tmp 47) (Operand.const (Value.int IntKind.i64 2)) 3, type := 4, pos := "cst.go:166", after := #[{ on := 2, ground := Ground.data }], guard := none }) (v := ?_) rfl (fun _ _ _ h => h) hHeld (by rfl) ?hy ?_
    case hy => (intro w' hSw; (try dsimp only at hSw); first | (go_simp; done) | (go_simp; with_reducible rfl))
    (try simp only [Act.put, List.setIfInBounds_toArray, List.set_cons_zero, List.set_cons_succ])
    refine tk 4 (oi := { dst := some 49, op := Op.move (Operand.tmp 48), type := 4, pos := "cst.go:166", after := #[{ on := 3, ground := Ground.data }], guard := none }) (v := ?_) rfl (fun _ _ _ h => h) hHeld (by rfl) ?hy ?_
    case hy => (intro w' hSw; (try dsimp only at hSw); first | (go_simp; done) | (go_simp; with_reducible rfl))
    (try simp only [Act.put, List.setIfInBounds_toArray, List.set_cons_zero, List.set_cons_succ])
    refine tk 5 (oi := { dst := some 50, op := Op.fieldAddr 26 (Operand.tmp 3) 6, type := 0, pos := "cst.go:166", after := #[{ on := 4, ground := Ground.guard }], guard := some (4, false) }) (v := ?_) rfl (fun _ _ _ h => h) hHeld (by rfl) ?hy ?_
    case hy => (intro w' hSw; (try dsimp only at hSw); first | (go_simp; done) | (go_simp; with_reducible rfl))
    (try simp only [Act.put, List.setIfInBounds_toArray, List.set_cons_zero, List.set_cons_succ])
    refine tk 6 (oi := { dst := some 51, op := Op.load 24 (Operand.tmp 50), type := 24, pos := "cst.go:166", after := #[{ on := 5, ground := Ground.data }, { on := 4, ground := Ground.guard }], guard := some (4, false) }) (v := ?_) rfl (fun _ _ _ h => h) hHeld (by rfl) ?hy ?_
    case hy => (intro w' hSw; (try dsimp only at hSw); first | (go_simp; done) | (go_simp; with_reducible rfl))
    (try simp only [Act.put, List.setIfInBounds_toArray, List.set_cons_zero, List.set_cons_succ])
    refine tk 7 (oi := { dst := some 52, op := Op.indexAddr 24 (Operand.tmp 51) (Operand.const (Value.int IntKind.i64 0)), type := 0, pos := "cst.go:166", after := #[{ on := 6, ground := Ground.data }, { on := 4, ground := Ground.guard }], guard := some (4, false) }) (v := ?_) rfl (fun _ _ _ h => h) hHeld (by rfl) ?hy ?_
    case hy => (intro w' hSw; (try dsimp only at hSw); first | (go_simp; done) | (go_simp; with_reducible rfl))
    (try simp only [Act.put, List.setIfInBounds_toArray, List.set_cons_zero, List.set_cons_succ])
    refine tk 8 (oi := { dst := some 53, op := Op.fieldAddr 26 (Operand.tmp 52) 0, type := 0, pos := "cst.go:166", after := #[{ on := 7, ground := Ground.data }, { on := 4, ground := Ground.guard }], guard := some (4, false) }) (v := ?_) rfl (fun _ _ _ h => h) hHeld (by rfl) ?hy ?_
    case hy => (intro w' hSw; (try dsimp only at hSw); first | (go_simp; done) | (go_simp; with_reducible rfl))
    (try simp only [Act.put, List.setIfInBounds_toArray, List.set_cons_zero, List.set_cons_succ])
    refine tk 9 (oi := { dst := some 54, op := Op.load 3 (Operand.tmp 53), type := 3, pos := "cst.go:166", after := #[{ on := 8, ground := Ground.data }, { on := 4, ground := Ground.guard }], guard := some (4, false) }) (v := ?_) rfl (fun _ _ _ h => h) hHeld (by rfl) ?hy ?_
    case hy => (intro w' hSw; (try dsimp only at hSw); first | (go_simp; done) | (go_simp; with_reducible rfl))
    (try simp only [Act.put, List.setIfInBounds_toArray, List.set_cons_zero, List.set_cons_succ])
    refine tk 10 (oi := { dst := some 55, op := Op.fieldAddr 40 (Operand.tmp 2) 3, type := 0, pos := "cst.go:166", after := #[{ on := 4, ground := Ground.guard }], guard := some (4, false) }) (v := ?_) rfl (fun _ _ _ h => h) hHeld (by rfl) ?hy ?_
    case hy => (intro w' hSw; (try dsimp only at hSw); first | (go_simp; done) | (go_simp; with_reducible rfl))
    (try simp only [Act.put, List.setIfInBounds_toArray, List.set_cons_zero, List.set_cons_succ])
    refine tk 11 (oi := { dst := some 56, op := Op.load 37 (Operand.tmp 55), type := 37, pos := "cst.go:166", after := #[{ on := 10, ground := Ground.data }, { on := 4, ground := Ground.guard }], guard := some (4, false) }) (v := ?_) rfl (fun _ _ _ h => h) hHeld (by rfl) ?hy ?_
    case hy => (intro w' hSw; (try dsimp only at hSw); first | (go_simp; done) | (go_simp; with_reducible rfl))
    (try simp only [Act.put, List.setIfInBounds_toArray, List.set_cons_zero, List.set_cons_succ])
    refine tk 12 (oi := { dst := some 57, op := Op.indexAddr 37 (Operand.tmp 56) (Operand.const (Value.int IntKind.i64 0)), type := 0, pos := "cst.go:166", after := #[{ on := 11, ground := Ground.data }, { on := 4, ground := Ground.guard }], guard := some (4, false) }) (v := ?_) rfl (fun _ _ _ h => h) hHeld (by rfl) ?hy ?_
    case hy => (intro w' hSw; (try dsimp only at hSw); first | (go_simp; done) | (go_simp; with_reducible rfl))
    (try simp only [Act.put, List.setIfInBounds_toArray, List.set_cons_zero, List.set_cons_succ])
    refine tk 13 (oi := { dst := some 58, op := Op.fieldAddr 58 (Operand.tmp 57) 1, type := 0, pos := "cst.go:166", after := #[{ on := 12, ground := Ground.data }, { on := 4, ground := Ground.guard }], guard := some (4, false) }) (v := ?_) rfl (fun _ _ _ h => h) hHeld (by rfl) ?hy ?_
    case hy => (intro w' hSw; (try dsimp only at hSw); first | (go_simp; done) | (go_simp; with_reducible rfl))
    (try simp only [Act.put, List.setIfInBounds_toArray, List.set_cons_zero, List.set_cons_succ])
    refine tk 14 (oi := { dst := some 59, op := Op.load 56 (Operand.tmp 58), type := 56, pos := "cst.go:166", after := #[{ on := 13, ground := Ground.data }, { on := 4, ground := Ground.guard }], guard := some (4, false) }) (v := ?_) rfl (fun _ _ _ h => h) hHeld (by rfl) ?hy ?_
    case hy => (intro w' hSw; (try dsimp only at hSw); first | (go_simp; done) | (go_simp; with_reducible rfl))
    (try simp only [Act.put, List.setIfInBounds_toArray, List.set_cons_zero, List.set_cons_succ])
    refine tk 15 (oi := { dst := some 60, op := Op.indexAddr 56 (Operand.tmp 59) (Operand.const (Value.int IntKind.i64 0)), type := 0, pos := "cst.go:166", after := #[{ on := 14, ground := Ground.data }, { on := 4, ground := Ground.guard }], guard := some (4, false) }) (v := ?_) rfl (fun _ _ _ h => h) hHeld (by rfl) ?hy ?_
    case hy => (intro w' hSw; (try dsimp only at hSw); first | (go_simp; done) | (go_simp; with_reducible rfl))
    (try simp only [Act.put, List.setIfInBounds_toArray, List.set_cons_zero, List.set_cons_succ])
    refine tk 16 (oi := { dst := some 61, op := Op.load 3 (Operand.tmp 60), type := 3, pos := "cst.go:166", after := #[{ on := 15, ground := Ground.data }, { on := 4, ground := Ground.guard }], guard := some (4, false) }) (v := ?_) rfl (fun _ _ _ h => h) hHeld (by rfl) ?hy ?_
    case hy => (intro w' hSw; (try dsimp only at hSw); first | (go_simp; done) | (go_simp; with_reducible rfl))
    (try simp only [Act.put, List.setIfInBounds_toArray, List.set_cons_zero, List.set_cons_succ])
    refine tk 17 (oi := { dst := some 62, op := Op.binOp BinOp.neq 3 (Operand.tmp 54) (Operand.tmp 61) 3, type := 4, pos := "cst.go:166", after := #[{ on := 9, ground := Ground.data }, { on := 16, ground := Ground.data }, { on := 4, ground := Ground.guard }], guard := some (4, false) }) (v := ?_) rfl (fun _ _ _ h => h) hHeld (by rfl) ?hy ?_
    case hy => (intro w' hSw; (try dsimp only at hSw); first | (go_simp; done) | (go_simp; with_reducible rfl))
    (try simp only [Act.put, List.setIfInBounds_toArray, List.set_cons_zero, List.set_cons_succ])
    refine tk 18 (oi := { dst := some 63, op := Op.pick (Operand.tmp 49) (Operand.const (Value.bool true)) (Operand.tmp 62), type := 4, pos := "cst.go:166", after := #[{ on := 4, ground := Ground.data }, { on := 17, ground := Ground.data }], guard := none }) (v := ?_) rfl (fun _ _ _ h => h) hHeld (by rfl) ?hy ?_
    case hy => (intro w' hSw; (try dsimp only at hSw); first | (go_simp; done) | (go_simp; with_reducible rfl))
    (try simp only [Act.put, List.setIfInBounds_toArray, List.set_cons_zero, List.set_cons_succ])
    refine tk 19 (oi := { dst := some 64, op := Op.move (Operand.tmp 63), type := 4, pos := "cst.go:166", after := #[{ on := 18, ground := Ground.data }, { on := 4, ground := Ground.chain }], guard := none }) (v := ?_) rfl (fun _ _ _ h => h) hHeld (by rfl) ?hy ?_
    case hy => (intro w' hSw; (try dsimp only at hSw); first | (go_simp; done) | (go_simp; with_reducible rfl))
    (try simp only [Act.put, List.setIfInBounds_toArray, List.set_cons_zero, List.set_cons_succ])
    refine tk 20 (oi := { dst := some 65, op := Op.fieldAddr 26 (Operand.tmp 3) 6, type := 0, pos := "cst.go:166", after := #[{ on := 19, ground := Ground.guard }], guard := some (19, false) }) (v := ?_) rfl (fun _ _ _ h => h) hHeld (by rfl) ?hy ?_
    case hy => (intro w' hSw; (try dsimp only at hSw); first | (go_simp; done) | (go_simp; with_reducible rfl))
    (try simp only [Act.put, List.setIfInBounds_toArray, List.set_cons_zero, List.set_cons_succ])
    refine tk 21 (oi := { dst := some 66, op := Op.load 24 (Operand.tmp 65), type := 24, pos := "cst.go:166", after := #[{ on := 20, ground := Ground.data }, { on := 19, ground := Ground.guard }], guard := some (19, false) }) (v := ?_) rfl (fun _ _ _ h => h) hHeld (by rfl) ?hy ?_
    case hy => (intro w' hSw; (try dsimp only at hSw); first | (go_simp; done) | (go_simp; with_reducible rfl))
    (try simp only [Act.put, List.setIfInBounds_toArray, List.set_cons_zero, List.set_cons_succ])
    refine tk 22 (oi := { dst := some 67, op := Op.indexAddr 24 (Operand.tmp 66) (Operand.const (Value.int IntKind.i64 1)), type := 0, pos := "cst.go:166", after := #[{ on := 21, ground := Ground.data }, { on := 19, ground := Ground.guard }], guard := some (19, false) }) (v := ?_) rfl (fun _ _ _ h => h) hHeld (by rfl) ?hy ?_
    case hy => (intro w' hSw; (try dsimp only at hSw); first | (go_simp; done) | (go_simp; with_reducible rfl))
    (try simp only [Act.put, List.setIfInBounds_toArray, List.set_cons_zero, List.set_cons_succ])
    refine tk 23 (oi := { dst := some 68, op := Op.fieldAddr 26 (Operand.tmp 67) 0, type := 0, pos := "cst.go:166", after := #[{ on := 22, ground := Ground.data }, { on := 19, ground := Ground.guard }], guard := some (19, false) }) (v := ?_) rfl (fun _ _ _ h => h) hHeld (by rfl) ?hy ?_
    case hy => (intro w' hSw; (try dsimp only at hSw); first | (go_simp; done) | (go_simp; with_reducible rfl))
    (try simp only [Act.put, List.setIfInBounds_toArray, List.set_cons_zero, List.set_cons_succ])
    refine tk 24 (oi := { dst := some 69, op := Op.load 3 (Operand.tmp 68), type := 3, pos := "cst.go:166", after := #[{ on := 23, ground := Ground.data }, { on := 19, ground := Ground.guard }], guard := some (19, false) }) (v := ?_) rfl (fun _ _ _ h => h) hHeld (by rfl) ?hy ?_
    case hy => (intro w' hSw; (try dsimp only at hSw); first | (go_simp; done) | (go_simp; with_reducible rfl))
    (try simp only [Act.put, List.setIfInBounds_toArray, List.set_cons_zero, List.set_cons_succ])
    refine tk 25 (oi := { dst := some 70, op := Op.binOp BinOp.neq 3 (Operand.tmp 69) (Operand.const (Value.int IntKind.i64 0)) 3, type := 4, pos := "cst.go:166", after := #[{ on := 24, ground := Ground.data }, { on := 19, ground := Ground.guard }], guard := some (19, false) }) (v := ?_) rfl (fun _ _ _ h => h) hHeld (by rfl) ?hy ?_
    case hy => (intro w' hSw; (try dsimp only at hSw); first | (go_simp; done) | (go_simp; with_reducible rfl))
    (try simp only [Act.put, List.setIfInBounds_toArray, List.set_cons_zero, List.set_cons_succ])
    refine tk 26 (oi := { dst := some 71, op := Op.pick (Operand.tmp 64) (Operand.const (Value.bool true)) (Operand.tmp 70), type := 4, pos := "cst.go:166", after := #[{ on := 19, ground := Ground.data }, { on := 25, ground := Ground.data }], guard := none }) (v := ?_) rfl (fun _ _ _ h => h) hHeld (by rfl) ?hy ?_
    case hy => (intro w' hSw; (try dsimp only at hSw); first | (go_simp; done) | (go_simp; with_reducible rfl))
    (try simp only [Act.put, List.setIfInBounds_toArray, List.set_cons_zero, List.set_cons_succ])
    refine tk 27 (oi := { dst := some 72, op := Op.move (Operand.tmp 71), type := 4, pos := "cst.go:166", after := #[{ on := 26, ground := Ground.data }, { on := 19, ground := Ground.chain }], guard := none }) (v := ?_) rfl (fun _ _ _ h => h) hHeld (by rfl) ?hy ?_
    case hy => (intro w' hSw; (try dsimp only at hSw); first | (go_simp; done) | (go_simp; with_reducible rfl))
    (try simp only [Act.put, List.setIfInBounds_toArray, List.set_cons_zero, List.set_cons_succ])
    refine tk 28 (oi := { dst := some 73, op := Op.load 40 (Operand.tmp 2), type := 40, pos := "cst.go:166", after := #[{ on := 27, ground := Ground.guard }], guard := some (27, false) }) (v := ?_) rfl (fun _ _ _ h => h) hHeld (by rfl) ?hy ?_
    case hy => (intro w' hSw; (try dsimp only at hSw); first | (go_simp; done) | (go_simp; with_reducible rfl))
    (try simp only [Act.put, List.setIfInBounds_toArray, List.set_cons_zero, List.set_cons_succ])
    refine tk 29 (oi := { dst := some 74, op := Op.fieldAddr 26 (Operand.tmp 3) 6, type := 0, pos := "cst.go:166", after := #[{ on := 27, ground := Ground.guard }], guard := some (27, false) }) (v := ?_) rfl (fun _ _ _ h => h) hHeld (by rfl) ?hy ?_
    case hy => (intro w' hSw; (try dsimp only at hSw); first | (go_simp; done) | (go_simp; with_reducible rfl))
    (try simp only [Act.put, List.setIfInBounds_toArray, List.set_cons_zero, List.set_cons_succ])
    refine tk 30 (oi := { dst := some 75, op := Op.load 24 (Operand.tmp 74), type := 24, pos := "cst.go:166", after := #[{ on := 29, ground := Ground.data }, { on := 27, ground := Ground.guard }], guard := some (27, false) }) (v := ?_) rfl (fun _ _ _ h => h) hHeld (by rfl) ?hy ?_
    case hy => (intro w' hSw; (try dsimp only at hSw); first | (go_simp; done) | (go_simp; with_reducible rfl))
    (try simp only [Act.put, List.setIfInBounds_toArray, List.set_cons_zero, List.set_cons_succ])
    refine tk 31 (oi := { dst := some 76, op := Op.indexAddr 24 (Operand.tmp 75) (Operand.const (Value.int IntKind.i64 1)), type := 0, pos := "cst.go:166", after := #[{ on := 30, ground := Ground.data }, { on := 27, ground := Ground.guard }], guard := some (27, false) }) (v := ?_) rfl (fun _ _ _ h => h) hHeld (by rfl) ?hy ?_
    case hy => (intro w' hSw; (try dsimp only at hSw); first | (go_simp; done) | (go_simp; with_reducible rfl))
    (try simp only [Act.put, List.setIfInBounds_toArray, List.set_cons_zero, List.set_cons_succ])
    refine tk 32 (oi := { dst := some 77, op := Op.load 26 (Operand.tmp 76), type := 26, pos := "cst.go:166", after := #[{ on := 31, ground := Ground.data }, { on := 27, ground := Ground.guard }], guard := some (27, false) }) (v := ?_) rfl (fun _ _ _ h => h) hHeld (by rfl) ?hy ?_
    case hy => (intro w' hSw; (try dsimp only at hSw); first | (go_simp; done) | (go_simp; with_reducible rfl))
    (try simp only [Act.put, List.setIfInBounds_toArray, List.set_cons_zero, List.set_cons_succ])
    refine wpAnyH_ready (rs := [33]) (by kernel_rfl) (by simp) ?_
    refine AllReadyH.cons (o := { dst := some 78, op := Op.call { callee := Callee.value (Operand.func 39), args := #[Operand.tmp 73, Operand.tmp 77], argTypes := #[40, 26] }, type := 4, pos := "cst.go:166", after := #[{ on := 28, ground := Ground.data }, { on := 32, ground := Ground.data }, { on := 27, ground := Ground.chain }, { on := 27, ground := Ground.guard }], guard := some (27, false) }) rfl (fun K hK => ?_) AllReadyH.nil
    go_simp
    go_at_call 39
    refine (InG.leaf (HG.out.below (by repeat (first | exact S2.out.B | apply below_alloc | apply pw_below_drewN | apply below_drew1))) (HO1.out.step (fun k q => (show Below w.heap.size w _ from (by repeat (first | exact S2.out.B | apply below_alloc | apply pw_below_drewN | apply below_drew1))).block k q)) HLF.out).mono ?_
    rintro e w3 ⟨rfl, hb⟩
    refine hK.out _ _ ?hS2 (fun hHeld2 => ?_)
    case hS2 => ((try dsimp only at hHeld); (try dsimp only); go_split_ands; exact ⟨kc hb (by assumption), kc hb (by assumption), kc hb (by assumption), kc hb (by assumption), kc hb (by assumption), kc hb (by assumption), kc hb (by assumption), kc hb (by assumption), kc hb (by assumption), kc hb (by assumption), kc hb (by assumption), kc hb (by assumption), kc hb (by assumption), kc hb (by assumption), kc hb (by assumption), kc hb (by assumption)⟩)
    clear hK K hHeld
    have hHeld := hHeld2
    clear hHeld2
    (try simp only [Act.put, List.setIfInBounds_toArray, List.set_cons_zero, List.set_cons_succ])
    refine tk 34 (oi := { dst := some 79, op := Op.unOp UnOp.not 4 (Operand.tmp 78), type := 4, pos := "cst.go:166", after := #[{ on := 33, ground := Ground.data }, { on := 27, ground := Ground.guard }], guard := some (27, false) }) (v := ?_) rfl (fun _ _ _ h => h) hHeld (by rfl) ?hy ?_
    case hy => (intro w' hSw; (try dsimp only at hSw); first | (go_simp; done) | (go_simp; with_reducible rfl))
    (try simp only [Act.put, List.setIfInBounds_toArray, List.set_cons_zero, List.set_cons_succ])
    refine tk 35 (oi := { dst := some 80, op := Op.pick (Operand.tmp 72) (Operand.const (Value.bool true)) (Operand.tmp 79), type := 4, pos := "cst.go:166", after := #[{ on := 27, ground := Ground.data }, { on := 34, ground := Ground.data }], guard := none }) (v := ?_) rfl (fun _ _ _ h => h) hHeld (by rfl) ?hy ?_
    case hy => (intro w' hSw; (try dsimp only at hSw); first | (go_simp; done) | (go_simp; with_reducible rfl))
    (try simp only [Act.put, List.setIfInBounds_toArray, List.set_cons_zero, List.set_cons_succ])
    refine tk 36 (oi := { dst := some 81, op := Op.move (Operand.tmp 80), type := 4, pos := "cst.go:166", after := #[{ on := 35, ground := Ground.data }, { on := 33, ground := Ground.chain }], guard := none }) (v := ?_) rfl (fun _ _ _ h => h) hHeld (by rfl) ?hy ?_
    case hy => (intro w' hSw; (try dsimp only at hSw); first | (go_simp; done) | (go_simp; with_reducible rfl))
    (try simp only [Act.put, List.setIfInBounds_toArray, List.set_cons_zero, List.set_cons_succ])
    refine tku 37 (oi := { dst := some 82, op := Op.fieldAddr 26 (Operand.tmp 3) 6, type := 0, pos := "cst.go:166", after := #[{ on := 36, ground := Ground.guard }], guard := some (36, false) }) rfl (fun _ _ _ h => h) hHeld (by rfl) ?_
    (try simp only [Act.put, List.setIfInBounds_toArray, List.set_cons_zero, List.set_cons_succ])
    refine tku 38 (oi := { dst := some 83, op := Op.load 24 (Operand.tmp 82), type := 24, pos := "cst.go:166", after := #[{ on := 37, ground := Ground.data }, { on := 36, ground := Ground.guard }], guard := some (36, false) }) rfl (fun _ _ _ h => h) hHeld (by rfl) ?_
    (try simp only [Act.put, List.setIfInBounds_toArray, List.set_cons_zero, List.set_cons_succ])
    refine tku 39 (oi := { dst := some 84, op := Op.indexAddr 24 (Operand.tmp 83) (Operand.const (Value.int IntKind.i64 1)), type := 0, pos := "cst.go:166", after := #[{ on := 38, ground := Ground.data }, { on := 36, ground := Ground.guard }], guard := some (36, false) }) rfl (fun _ _ _ h => h) hHeld (by rfl) ?_
    (try simp only [Act.put, List.setIfInBounds_toArray, List.set_cons_zero, List.set_cons_succ])
    refine tku 40 (oi := { dst := some 85, op := Op.fieldAddr 26 (Operand.tmp 84) 2, type := 0, pos := "cst.go:166", after := #[{ on := 39, ground := Ground.data }, { on := 36, ground := Ground.guard }], guard := some (36, false) }) rfl (fun _ _ _ h => h) hHeld (by rfl) ?_
    (try simp only [Act.put, List.setIfInBounds_toArray, List.set_cons_zero, List.set_cons_succ])
    refine tku 41 (oi := { dst := some 86, op := Op.load 3 (Operand.tmp 85), type := 3, pos := "cst.go:166", after := #[{ on := 40, ground := Ground.data }, { on := 36, ground := Ground.guard }], guard := some (36, false) }) rfl (fun _ _ _ h => h) hHeld (by rfl) ?_
    (try simp only [Act.put, List.setIfInBounds_toArray, List.set_cons_zero, List.set_cons_succ])
    refine tku 42 (oi := { dst := some 87, op := Op.binOp BinOp.lss 3 (Operand.tmp 86) (Operand.const (Value.int IntKind.i64 0)) 3, type := 4, pos := "cst.go:166", after := #[{ on := 41, ground := Ground.data }, { on := 36, ground := Ground.guard }], guard := some (36, false) }) rfl (fun _ _ _ h => h) hHeld (by rfl) ?_
    (try simp only [Act.put, List.setIfInBounds_toArray, List.set_cons_zero, List.set_cons_succ])
    refine tk 43 (oi := { dst := some 88, op := Op.pick (Operand.tmp 81) (Operand.const (Value.bool true)) (Operand.tmp 87), type := 4, pos := "cst.go:166", after := #[{ on := 36, ground := Ground.data }, { on := 42, ground := Ground.data }], guard := none }) (v := ?_) rfl (fun _ _ _ h => h) hHeld (by rfl) ?hy ?_
    case hy => (intro w' hSw; (try dsimp only at hSw); first | (go_simp; done) | (go_simp; with_reducible rfl))
    (try simp only [Act.put, List.setIfInBounds_toArray, List.set_cons_zero, List.set_cons_succ])
    refine wpAnyH_done (by kernel_rfl) (NoPanic.normal ?_) _
    have S3 := Aside0.mk ((S2.out.below (by repeat (first | exact Below.refl _ _ | apply below_alloc | apply pw_below_drewN | apply below_drew1))).below hb)
    have z3 : w3.cell? ⟨w.heap.size + 1 + 1, 0, none⟩ = some (.bool false) := (blk_cell S3.out.c 0).trans rfl
    have z4 := blk_frozen S3.out.c 0
    clear hb
    go_wp2
    exact BAD.out S3.out (by first | rfl | trivial) rfl
  replace hh : (if k1.f2 < 0 then some false else allGo k l0_0 l0_1 l0_2 l0_3 l0_4 (preN k0)) = some r := by simpa using hh
  by_cases c5 : k1.f2 < 0
  case pos =>
    rw [if_pos c5] at hh
    obtain rfl := Option.some.inj hh
    have c5b : decide (k1.f2 < 0) = true := decide_eq_true c5
    clear c5 hh
    first | (go_region_held3 (fun w' => w'.cell? ⟨w.heap.size + 1, 6, none⟩ = some (.slice (some ad) 2 c1_6) ∧ w'.cell? ad = some (.int .i64 k0.f0) ∧ w'.cell? ⟨ar.block, ar.off + 1, none⟩ = some (.slice (some af) ln s1) ∧ w'.cell? af = some (.int .i64 s) ∧ w'.cell? ⟨w.heap.size, 0, none⟩ = some (.slice A0_0 l0_0.length c0_0) ∧ w'.cell? ⟨w.heap.size, 1, none⟩ = some (.slice A0_1 l0_1.length c0_1) ∧ w'.cell? ⟨w.heap.size, 2, none⟩ = some (.slice A0_2 l0_2.length c0_2) ∧ w'.cell? ⟨w.heap.size, 3, none⟩ = some (.slice (some ar) l0_3.length c0_3) ∧ w'.cell? ⟨w.heap.size, 4, none⟩ = some (.slice A0_4 l0_4.length c0_4) ∧ w'.cell? ⟨ad.block, ad.off + 7, none⟩ = some (.int .i64 k1.f0) ∧ w'.cell? ⟨ad.block, ad.off + 7 + 1, none⟩ = some (.int .i64 k1.f1) ∧ w'.cell? ⟨ad.block, ad.off + 7 + 2, none⟩ = some (.int .i64 k1.f2) ∧ w'.cell? ⟨ad.block, ad.off + 7 + 3, none⟩ = some (.int .i64 k1.f3) ∧ w'.cell? ⟨ad.block, ad.off + 7 + 4, none⟩ = some (.slice C4 k1.f4.length e4) ∧ w'.cell? ⟨ad.block, ad.off + 7 + 5, none⟩ = some (.string k1.f5) ∧ w'.cell? ⟨ad.block, ad.off + 7 + 6, none⟩ = some (.slice C6 k1.f6.length e6))
      (first
        | go_keep
        | (refine ⟨kc hb ?_, kc hb ?_, kc hb ?_, kc hb ?_, kc hb ?_, kc hb ?_, kc hb ?_, kc hb ?_, kc hb ?_, kc hb ?_, kc hb ?_, kc hb ?_, kc hb ?_, kc hb ?_, kc hb ?_, kc hb ?_⟩ <;> assumption))
      ((go_at_call 39; refine (InG.leaf (HG.out.below (by repeat (first | exact S2.out.B | apply below_alloc | apply pw_below_drewN | apply below_drew1))) (HO1.out.step (fun k q => (show Below w.heap.size w _ from (by repeat (first | exact S2.out.B | apply below_alloc | apply pw_below_drewN | apply below_drew1))).block k q)) HLF.out).mono ?_; rintro e w3 ⟨rfl, hb⟩))) | fail
    have S3 := Aside0.mk ((S2.out.below (by repeat (first | exact Below.refl _ _ | apply below_alloc | apply pw_below_drewN | apply below_drew1))).below hb)
    have z3 : w3.cell? ⟨w.heap.size + 1 + 1, 0, none⟩ = some (.bool false) := (blk_cell S3.out.c 0).trans rfl
    have z4 := blk_frozen S3.out.c 0
    clear hb
    go_wp2
    exact BAD.out S3.out (by first | rfl | trivial) rfl
  rw [if_neg c5] at hh
  have c5b : decide (k1.f2 < 0) = false := decide_eq_false c5
  have HH := Aside0.mk hh
  clear c5 hh
  first | (go_region_held3 (fun w' => w'.cell? ⟨w.heap.size + 1, 6, none⟩ = some (.slice (some ad) 2 c1_6) ∧ w'.cell? ad = some (.int .i64 k0.f0) ∧ w'.cell? ⟨ar.block, ar.off + 1, none⟩ = some (.slice (some af) ln s1) ∧ w'.cell? af = some (.int .i64 s) ∧ w'.cell? ⟨w.heap.size, 0, none⟩ = some (.slice A0_0 l0_0.length c0_0) ∧ w'.cell? ⟨w.heap.size, 1, none⟩ = some (.slice A0_1 l0_1.length c0_1) ∧ w'.cell? ⟨w.heap.size, 2, none⟩ = some (.slice A0_2 l0_2.length c0_2) ∧ w'.cell? ⟨w.heap.size, 3, none⟩ = some (.slice (some ar) l0_3.length c0_3) ∧ w'.cell? ⟨w.heap.size, 4, none⟩ = some (.slice A0_4 l0_4.length c0_4) ∧ w'.cell? ⟨ad.block, ad.off + 7, none⟩ = some (.int .i64 k1.f0) ∧ w'.cell? ⟨ad.block, ad.off + 7 + 1, none⟩ = some (.int .i64 k1.f1) ∧ w'.cell? ⟨ad.block, ad.off + 7 + 2, none⟩ = some (.int .i64 k1.f2) ∧ w'.cell? ⟨ad.block, ad.off + 7 + 3, none⟩ = some (.int .i64 k1.f3) ∧ w'.cell? ⟨ad.block, ad.off + 7 + 4, none⟩ = some (.slice C4 k1.f4.length e4) ∧ w'.cell? ⟨ad.block, ad.off + 7 + 5, none⟩ = some (.string k1.f5) ∧ w'.cell? ⟨ad.block, ad.off + 7 + 6, none⟩ = some (.slice C6 k1.f6.length e6))
      (first
        | go_keep
        | (refine ⟨kc hb ?_, kc hb ?_, kc hb ?_, kc hb ?_, kc hb ?_, kc hb ?_, kc hb ?_, kc hb ?_, kc hb ?_, kc hb ?_, kc hb ?_, kc hb ?_, kc hb ?_, kc hb ?_, kc hb ?_, kc hb ?_⟩ <;> assumption))
      ((go_at_call 39; refine (InG.leaf (HG.out.below (by repeat (first | exact S2.out.B | apply below_alloc | apply pw_below_drewN | apply below_drew1))) (HO1.out.step (fun k q => (show Below w.heap.size w _ from (by repeat (first | exact S2.out.B | apply below_alloc | apply pw_below_drewN | apply below_drew1))).block k q)) HLF.out).mono ?_; rintro e w3 ⟨rfl, hb⟩))) | fail
  have S3 := Aside0.mk ((S2.out.below (by repeat (first | exact Below.refl _ _ | apply below_alloc | apply pw_below_drewN | apply below_drew1))).below hb)
  have BX := Aside0.mk (show Below w2.heap.size w2 w3 from (show Below w2.heap.size w2 w2.drew from (by repeat (first | exact Below.refl _ _ | apply below_alloc | apply pw_below_drewN | apply below_drew1))).trans hb)
  have y0 : w3.cell? ⟨w.heap.size + 1, 6, none⟩ = some (.slice (some ad) 2 c1_6) := kc BX.out n6
  have y1 : w3.cell? ad = some (.int .i64 k0.f0) := kc BX.out p0
  have y2 : w3.cell? ⟨ad.block, ad.off + 1, none⟩ = some (.int .i64 k0.f1) := kc BX.out p1
  have y3 : w3.cell? ⟨ad.block, ad.off + 2, none⟩ = some (.int .i64 k0.f2) := kc BX.out p2
  have y4 : w3.cell? ⟨ad.block, ad.off + 3, none⟩ = some (.int .i64 k0.f3) := kc BX.out p3
  have y5 : w3.cell? ⟨ad.block, ad.off + 4, none⟩ = some (.slice B4 k0.f4.length d4) := kc BX.out p4
  have y6 : w3.cell? ⟨ad.block, ad.off + 5, none⟩ = some (.string k0.f5) := kc BX.out p5
  have y7 : w3.cell? ⟨ad.block, ad.off + 6, none⟩ = some (.slice B6 k0.f6.length d6) := kc BX.out p6
  have y8 : w3.cell? ⟨w.heap.size, 0, none⟩ = some (.slice A0_0 l0_0.length c0_0) := kc BX.out g0
  have y9 : w3.cell? ⟨w.heap.size, 1, none⟩ = some (.slice A0_1 l0_1.length c0_1) := kc BX.out g1
  have y10 : w3.cell? ⟨w.heap.size, 2, none⟩ = some (.slice A0_2 l0_2.length c0_2) := kc BX.out g2
  have y11 : w3.cell? ⟨w.heap.size, 3, none⟩ = some (.slice (some ar) l0_3.length c0_3) := kc BX.out g3
  have y12 : w3.cell? ⟨w.heap.size, 4, none⟩ = some (.slice A0_4 l0_4.length c0_4) := kc BX.out g4
  have z3 : w3.cell? ⟨w.heap.size + 1 + 1, 0, none⟩ = some (.bool false) := (blk_cell S3.out.c 0).trans rfl
  have z4 := blk_frozen S3.out.c 0
  clear hb n0 n1 n2 n3 n4 n5 n6 z1 z2 f1 f2 p0 p1 p2 p3 p4 p5 p6 r0 r1 r2 r3 r4 r5 r6 g0 g1 g2 g3 g4
  go_wp2_with (go_at_call 31; refine (all_calls' _ _ _ _ _ _).mono ?_; rintro e w' ⟨rfl, rfl⟩)
  clear y0 y1 y2 y3 y4 y5 y6 y7 y8 y9 y10 y11 y12 z3 z4
  obtain ⟨L, hL1, hL2, hL3⟩ := visits_of w (fun k => k < w.heap.size ∨ k = w3.heap.size) (fun k q => .inl q) _ ⟨k0, B4, d4, B6, d6⟩ (Nat.lt_succ_self _) HO0.out
  have HL1 := Aside0.mk hL1
  have HL2 := Aside0.mk hL2
  have HL3 := Aside0.mk hL3
  clear hL1 hL2 hL3
  have hBa := below_alloc (Below.refl w3.heap.size w3) (.cells #[.int .i64 k0.f0, .int .i64 k0.f1, .int .i64 k0.f2, .int .i64 k0.f3, .slice B4 k0.f4.length d4, .string k0.f5, .slice B6 k0.f6.length d6] 26)
  have hb0 := blk_new w3 (.cells #[.int .i64 k0.f0, .int .i64 k0.f1, .int .i64 k0.f2, .int .i64 k0.f3, .slice B4 k0.f4.length d4, .string k0.f5, .slice B6 k0.f6.length d6] 26)
  have hz : (w3.alloc (.cells #[.int .i64 k0.f0, .int .i64 k0.f1, .int .i64 k0.f2, .int .i64 k0.f3, .slice B4 k0.f4.length d4, .string k0.f5, .slice B6 k0.f6.length d6] 26)).heap.size = w3.heap.size + 1 := by simp
  obtain ⟨W0, hW0⟩ : ∃ W0, w3.alloc (.cells #[.int .i64 k0.f0, .int .i64 k0.f1, .int .i64 k0.f2, .int .i64 k0.f3, .slice B4 k0.f4.length d4, .string k0.f5, .slice B6 k0.f6.length d6] 26) = W0 := ⟨_, rfl⟩
  rw [hW0] at hBa hb0 hz ⊢
  clear hW0
  have S4 := Aside0.mk (S3.out.below hBa)
  have hws : w.heap.size + 1 + 1 < w3.heap.size := (Array.getElem?_eq_some_iff.1 S3.out.c).1
  have hB := S4.out.B
  refine (wpIn_wide (n := 0)).1 ?_
  refine wp_range_T (gf := 49) (lb := #[.pointer (some ⟨w3.heap.size, 0, none⟩)]) ?hg (enters_of Tryd.func49 (by kernel_rfl) rfl) (all1_gives w W0 ⟨k0, B4, d4, B6, d6⟩ L _ (fun k q => hB.block k q) hB.size hb0 HL3.out) (Below.refl _ _) (fun _ => rfl)
    (RI w A0_0 c0_0 l0_0 A0_1 c0_1 l0_1 A0_2 c0_2 l0_2 (some ar) c0_3 l0_3 A0_4 c0_4 l0_4 k (w3.heap.size + 1)) (RX w r (w3.heap.size + 1)) (RM w A0_0 c0_0 l0_0 A0_1 c0_1 l0_1 A0_2 c0_2 l0_2 (some ar) c0_3 l0_3 A0_4 c0_4 l0_4 k (w3.heap.size + 1)) (RI.abides w A0_0 c0_0 l0_0 A0_1 c0_1 l0_1 A0_2 c0_2 l0_2 (some ar) c0_3 l0_3 A0_4 c0_4 l0_4 k _) (RX.abides w r _) ?hM ?h0 ?assign ?body ?done ?stop
  case hg => rfl
  case hM => exact fun pre y a₁ => RM.abides w A0_0 c0_0 l0_0 A0_1 c0_1 l0_1 A0_2 c0_2 l0_2 (some ar) c0_3 l0_3 A0_4 c0_4 l0_4 k _ _ pre y a₁
  case h0 => exact ⟨by simp, ⟨hB, fun k q => q.elim, by omega, by omega⟩, by omega, S4.out.g, S4.out.c⟩
  case assign =>
    intro l pre y post X W hL hI hX
    have HI := Aside0.mk hI
    have HX := Aside0.mk hX
    clear hL hI hX hb0 hB hBa
    obtain ⟨x2, E4, f4, E6, f6⟩ := y
    simp only [encNode, NodeE.v]
    gi_wp2
    have hI' := RI.abides w A0_0 c0_0 l0_0 A0_1 c0_1 l0_1 A0_2 c0_2 l0_2 (some ar) c0_3 l0_3 A0_4 c0_4 l0_4 k (w3.heap.size + 1) pre X W _ X HI.out (IStep.of_below (below_alloc (Below.refl _ _) (.cells #[.int .i64 x2.f0, .int .i64 x2.f1, .int .i64 x2.f2, .int .i64 x2.f3, .slice E4 x2.f4.length f4, .string x2.f5, .slice E6 x2.f6.length f6] 26)))
    exact ⟨.of_below (below_alloc (Below.refl _ _) _), hI', W.heap.size, blk_new W _, fun q => by have := (HX.out _ q).2; omega, HI.out.2.own.size, rfl⟩
  case body =>
    rintro l pre y post a₁ X W hL ⟨hI, bx, hbx, hnx, hge, rfl⟩ hX
    have hok := (HL2.out y (by rw [hL]; simp)).step (fun k q => hI.2.own.below.block k q)
    have hall : allGo k l0_0 l0_1 l0_2 l0_3 l0_4 (pre.map (·.x) ++ y.x :: post.map (·.x)) = some r := by
      have h1 := HH.out
      rw [← HL1.out, hL] at h1
      simpa using h1
    obtain ⟨b, hb1, hb2⟩ := allGo_at k _ _ _ _ _ y.x (post.map (·.x)) (pre.map (·.x)) (fun e he => by obtain ⟨d, hd, rfl⟩ := List.mem_map.1 he; exact hI.1 d hd) hall
    obtain ⟨x2, E4, f4, E6, f6⟩ := y
    have HI := Aside0.mk hI
    have HBX := Aside0.mk hbx
    have HO := Aside0.mk hok
    have HB2 := Aside0.mk hb2
    dsimp only at hb1
    simp only [NodeE.a] at hbx
    have b0 : W.cell? ⟨bx, 0, none⟩ = some (.int .i64 x2.f0) := (blk_cell hbx 0).trans rfl
    have b1 : W.cell? ⟨bx, 1, none⟩ = some (.int .i64 x2.f1) := (blk_cell hbx 1).trans rfl
    have b2 : W.cell? ⟨bx, 2, none⟩ = some (.int .i64 x2.f2) := (blk_cell hbx 2).trans rfl
    have b3 : W.cell? ⟨bx, 3, none⟩ = some (.int .i64 x2.f3) := (blk_cell hbx 3).trans rfl
    have b4 : W.cell? ⟨bx, 4, none⟩ = some (.slice E4 x2.f4.length f4) := (blk_cell hbx 4).trans rfl
    have b5 : W.cell? ⟨bx, 5, none⟩ = some (.string x2.f5) := (blk_cell hbx 5).trans rfl
    have b6 : W.cell? ⟨bx, 6, none⟩ = some (.slice E6 x2.f6.length f6) := (blk_cell hbx 6).trans rfl
    have g0 : W.cell? ⟨w.heap.size, 0, none⟩ = some (.slice A0_0 l0_0.length c0_0) := (blk_cell hI.2.g 0).trans rfl
    have g1 : W.cell? ⟨w.heap.size, 1, none⟩ = some (.slice A0_1 l0_1.length c0_1) := (blk_cell hI.2.g 1).trans rfl
    have g2 : W.cell? ⟨w.heap.size, 2, none⟩ = some (.slice A0_2 l0_2.length c0_2) := (blk_cell hI.2.g 2).trans rfl
    have g3 : W.cell? ⟨w.heap.size, 3, none⟩ = some (.slice (some ar) l0_3.length c0_3) := (blk_cell hI.2.g 3).trans rfl
    have g4 : W.cell? ⟨w.heap.size, 4, none⟩ = some (.slice A0_4 l0_4.length c0_4) := (blk_cell hI.2.g 4).trans rfl
    have z1 : W.cell? ⟨w.heap.size + 1 + 1, 0, none⟩ = some (.bool false) := (blk_cell hI.2.c 0).trans rfl
    have z2 := blk_frozen hI.2.c 0
    have nok : ∀ {W' : World}, Below W.heap.size W W' → b = true → Keeps (fun k => X k ∨ (k < w.heap.size ∨ k = w3.heap.size)) W W' ∧ RI w A0_0 c0_0 l0_0 A0_1 c0_1 l0_1 A0_2 c0_2 l0_2 (some ar) c0_3 l0_3 A0_4 c0_4 l0_4 k (w3.heap.size + 1) (pre ++ [⟨x2, E4, f4, E6, f6⟩]) X W' := fun {W'} hb e => by
      refine ⟨Keeps.of_below hb, fun d hd => ?_, HI.out.2.step (IStep.of_below hb)⟩
      rcases List.mem_append.1 hd with q | q
      · exact HI.out.1 d q
      · obtain rfl := List.mem_singleton.1 q
        rw [← e]; exact hb1
    have nbad : ∀ {W' : World}, Below W.heap.size W W' → b = false → Keeps (fun k => X k ∨ (k < w.heap.size ∨ k = w3.heap.size)) W (W'.setCell ⟨w.heap.size + 1 + 1, 0, none⟩ (.bool false)) ∧ RX w r (w3.heap.size + 1) .ret (pre ++ [⟨x2, E4, f4, E6, f6⟩]) X (W'.setCell ⟨w.heap.size + 1 + 1, 0, none⟩ (.bool false)) := fun {W'} hb e => by
      have hs := HI.out.2.step (IStep.of_below hb)
      refine ⟨(Keeps.of_below hb).trans (Keeps.set _ _ _ (fun q => ?_)), rfl, HB2.out e, hs.own.set _ _ (by simp <;> omega), hs.far, ?_⟩
      · rcases q with q | q
        · have := HI.out.2.own.far _ q; simp at this <;> omega
        · simp at q; omega
      · have := blk_put hs.c 0 (.bool false) rfl
        simpa using this
    have NOK := Aside0.mk @nok
    have NBAD := Aside0.mk @nbad
    have HB1 := Aside0.mk hb1
    clear hI hL hok hall hb0 hbx hX hb1 hb2 hB hBa nok nbad
    simp only [NodeE.v]
    (try simp only [List.setIfInBounds_toArray, List.set_cons_zero, List.set_cons_succ])
    have hh := HB1.out
    unfold okGo at hh
    by_cases e1 : x2.f2 < 0
    case pos =>
      rw [if_pos e1] at hh
      obtain rfl := Option.some.inj hh
      have e1b : decide (x2.f2 < 0) = true := decide_eq_true e1
      clear e1 hh
      gi_wp2_with (first | (exfalso; have h_ := (by assumption : some undef = some (Value.bool _)); simp [undef] at h_; done) | (refine ⟨trivial, ?_⟩))
      exact NBAD.out (Below.refl _ _) (by first | rfl | trivial)
    rw [if_neg e1] at hh
    have e1b : decide (x2.f2 < 0) = false := decide_eq_false e1
    clear e1
    by_cases e2 : x2.f0 = 0
    case pos =>
      rw [if_pos e2] at hh
      obtain rfl := Option.some.inj hh
      have e2b : (x2.f0 == 0) = true := beq_iff_eq.mpr e2
      have e2c : (x2.f0 != 0) = false := bne_eq_false_iff_eq.mpr e2
      clear e2 hh
      gi_wp2_with (first | (exfalso; have h_ := (by assumption : some undef = some (Value.bool _)); simp [undef] at h_; done) | (refine ⟨trivial, ?_⟩))
      exact NBAD.out (Below.refl _ _) (by first | rfl | trivial)
    rw [if_neg e2] at hh
    have e2b : (x2.f0 == 0) = false := beq_eq_false_iff_ne.mpr e2
    have e2c : (x2.f0 != 0) = true := bne_iff_ne.mpr e2
    by_cases e3 : x2.f0 = -1
    case pos =>
      rw [if_pos e3] at hh
      obtain rfl := Option.some.inj hh
      have e3b : (x2.f0 == (-1)) = true := beq_iff_eq.mpr e3
      have e3c : (x2.f0 != (-1)) = false := bne_eq_false_iff_eq.mpr e3
      clear e2 e3 hh
      gi_wp2_with (first | (exfalso; have h_ := (by assumption : some undef = some (Value.bool _)); simp [undef] at h_; done) | (refine ⟨trivial, ?_⟩))
      exact NBAD.out (Below.refl _ _) (by first | rfl | trivial)
    rw [if_neg e3] at hh
    have e3b : (x2.f0 == (-1)) = false := beq_eq_false_iff_ne.mpr e3
    have e3c : (x2.f0 != (-1)) = true := bne_iff_ne.mpr e3
    clear e3
    by_cases e4 : 0 < x2.f0
    case pos =>
      rw [if_pos e4] at hh
      have e4b : decide (0 < x2.f0) = true := decide_eq_true e4
      have e5b : decide (x2.f0 < 0) = false := decide_eq_false (by omega)
      have HLE := Aside0.mk hh
      clear e2 e4 hh
      cases b
      case false =>
        gi_wp2_with (first | (exfalso; have h_ := (by assumption : some undef = some (Value.bool _)); simp [undef] at h_; done) | (refine ⟨trivial, rfl, ?_⟩; refine (callsIn_wide.2 (InG.leaf (HG.out.below HI.out.2.own.below) HO.out HLE.out)).mono ?_; rintro e w4 ⟨rfl, hb⟩; have HB4 := Aside0.mk hb; have z3 := kc hb z1; have z4 := blk_frozen (HI.out.2.step (IStep.of_below hb)).c 0; clear hb z1 z2) | (refine ⟨trivial, ?_⟩))
        exact NBAD.out HB4.out (by first | rfl | trivial)
      case true =>
        gi_wp2_with (first | (exfalso; have h_ := (by assumption : some undef = some (Value.bool _)); simp [undef] at h_; done) | (refine ⟨trivial, rfl, ?_⟩; refine (callsIn_wide.2 (InG.leaf (HG.out.below HI.out.2.own.below) HO.out HLE.out)).mono ?_; rintro e w4 ⟨rfl, hb⟩; have HB4 := Aside0.mk hb; have d0 : w4.cell? ⟨bx, 0, none⟩ = some (.int .i64 x2.f0) := kc hb b0; clear hb z1 z2) | (refine ⟨trivial, ?_⟩))
        exact NOK.out HB4.out (by first | rfl | trivial)
    case neg =>
      rw [if_neg e4] at hh
      have e4b : decide (0 < x2.f0) = false := decide_eq_false e4
      have e5b : decide (x2.f0 < 0) = true := decide_eq_true (by omega)
      have HLE := Aside0.mk hh
      clear e2 e4 hh
      cases b
      case false =>
        gi_wp2_with (first | (exfalso; have h_ := (by assumption : some undef = some (Value.bool _)); simp [undef] at h_; done) | (refine ⟨trivial, rfl, ?_⟩; refine (callsIn_wide.2 (InG.inner (HG.out.below HI.out.2.own.below) HO.out HLE.out)).mono ?_; rintro e w4 ⟨rfl, hb⟩; have HB4 := Aside0.mk hb; have z3 := kc hb z1; have z4 := blk_frozen (HI.out.2.step (IStep.of_below hb)).c 0; clear hb z1 z2) | (refine ⟨trivial, ?_⟩))
        exact NBAD.out HB4.out (by first | rfl | trivial)
      case true =>
        gi_wp2_with (first | (exfalso; have h_ := (by assumption : some undef = some (Value.bool _)); simp [undef] at h_; done) | (refine ⟨trivial, rfl, ?_⟩; refine (callsIn_wide.2 (InG.inner (HG.out.below HI.out.2.own.below) HO.out HLE.out)).mono ?_; rintro e w4 ⟨rfl, hb⟩; have HB4 := Aside0.mk hb; clear hb z1 z2) | (refine ⟨trivial, ?_⟩))
        exact NOK.out HB4.out (by first | rfl | trivial)
  case done =>
    rintro X W hI hXD hXb hD
    rw [hz] at hD
    have HI := Aside0.mk hI
    have HD := Aside0.mk hD
    have c1 : W.cell? ⟨w.heap.size + 1 + 1, 0, none⟩ = some (.bool false) := (blk_cell hI.2.c 0).trans rfl
    have f1 := blk_frozen hI.2.c 0
    clear hI hD hXb hXD hb0 hB hBa
    go_wp2
    have e1 := blk_put HI.out.2.c 0 (.bool true) rfl
    have hd := (Below.heap_setCell W ⟨w.heap.size + 1 + 1, 0, none⟩ (.bool true) _ (by simp <;> omega)).trans HD.out
    refine right_end e1 hd (HI.out.2.own.below.setCell (by simp <;> omega) _) (by omega) ?_
    have h1 := allGo_all k l0_0 l0_1 l0_2 l0_3 l0_4 (preN k0) (fun e he => by
      rw [← HL1.out] at he
      obtain ⟨d, hd, rfl⟩ := List.mem_map.1 he
      exact HI.out.1 d hd)
    rw [HH.out] at h1
    exact (Option.some.inj h1).symm
  case stop =>
    rintro c pre X W hpre ⟨rfl, he, hI, hf, hc⟩ hXD hD
    rw [hz] at hD
    have HI := Aside0.mk hI
    have HC := Aside0.mk hc
    have HD := Aside0.mk hD
    have HE := Aside0.mk he
    clear hI hD hpre he hXD hb0 hB hBa hc
    refine wpIn_wide.2 ?_
    go_wp2
    exact right_end HC.out HD.out HI.out.below (by omega) HE.out.symm
end Go.Proofs.YtphmgaijkdflnaaDoor.H
end
section
namespace Go.Proofs.YtphmgaijkdflnaaDoor.H
open Go.RowKit Go.Proofs.YtphmgaijkdflnaaDoorW.PrintWords Go.Proofs.YtphmgaijkdflnaaDoorW.PrintLast Go.Proofs.YtphmgaijkdflnaaDoorW.PrintMore
open Go.Maps
set_option linter.unusedVariables false
set_option linter.unusedSimpArgs false
def text_Runes.f (a0 : ByteArray) : Option (List S87) := if a0.size ≤ 4398046511104 then some (runesL a0) else none
theorem decodeGo_tail (s : ByteArray) (pos : Nat) (h : pos < s.size) : Lib.decodeGo (s.extract pos s.size) = Utf8.decode s pos := by
  unfold Lib.decodeGo
  rw [if_neg (by simp; omega), Lib.tail_decode]
  rfl
def RunesRel (s : ByteArray) (w : World) (v : Value) (wr : World) : Prop :=
  ∃ (pos fuel : Nat) (acc : List S87), acc ++ runesFrom s fuel pos = runesL s ∧ s.size ≤ pos + fuel ∧ pos ≤ s.size ∧ acc.length ≤ pos ∧ wr.heap[w.heap.size]? = some (.stringIter s pos) ∧ Below w.heap.size w wr ∧ Kd.R k87 87 wr w.heap.size (fun k => k ≠ w.heap.size) v acc
theorem RunesRel.next {s : ByteArray} {w wr W : World} {pos f : Nat} {acc : List S87} {v : Value} (hp : pos < s.size) (hL : acc ++ runesFrom s (f + 1) pos = runesL s) (hfu : s.size ≤ pos + (f + 1)) (hal : acc.length ≤ pos)
    (hit0 : wr.heap[w.heap.size]? = some (.stringIter s pos)) (hit : W.heap[w.heap.size]? = some (.stringIter s (pos + (Utf8.decode s pos).2))) (hB : Below w.heap.size w W)
    (hR : Kd.R k87 87 W w.heap.size (fun k => k ≠ w.heap.size) v (acc ++ [⟨((Utf8.decode s pos).1 : Int), (pos : Int), ((Utf8.decode s pos).2 : Int)⟩])) :
    RunesRel s w v W ∧ s.size - W.iterPos w.heap.size < s.size - wr.iterPos w.heap.size := by
  have h1 := rune_w_pos s pos
  have h2 := rune_w_le s pos hp
  refine ⟨⟨_, f, _, ?_, by omega, by omega, by simp; omega, hit, hB, hR⟩, ?_⟩
  · rw [← hL]; simp [runesFrom, hp]
  · simp only [World.iterPos, hit0, hit]; omega
set_option maxRecDepth 100000 in
set_option maxHeartbeats 2000000 in
theorem text_Runes.calls (a0 : ByteArray) (r : List (S87)) (w : World) (hgw : GW w) (h : text_Runes.f a0 = some r) :
    Calls Tryd.prog 67 #[.string a0] w fun e w' => ∃ v0_ : Value, e = .returned (v0_) ∧ Kd.R k87 87 w' w.heap.size (fun _ => True) v0_ r ∧ Below w.heap.size w w' := by
  unfold text_Runes.f at h
  split at h
  case isFalse => cases h
  rename_i hs
  have HP := Aside0.mk (Option.some.inj h)
  have HS := Aside0.mk hs
  have HGW := Aside0.mk hgw
  clear h hs hgw
  have hu := Tryd.underlying87
  go_enter Tryd.func67, Tryd.ntmps67
  go_wp2
  go_loopw [3] (fun v wr => RunesRel a0 w v wr) (fun _ wr => a0.size - wr.iterPos w.heap.size)
  case atStart => exact ⟨0, a0.size, [], rfl, by omega, by omega, by simp, World.iter_heap w a0 0, below_alloc (Below.refl _ _) _, Kd.R_nil _ _ _ _ _⟩
  case round =>
    obtain ⟨pos, fuel, acc, hL, hfu, hpo, hal, hit, hB, hR⟩ := hrel
    by_cases hp : pos < a0.size
    · have hnx : ∀ ty, (Instr.next (.pointer (some ⟨w.heap.size, 0, none⟩)) true ty).run Tryd.prog wr = _ := fun ty => Lib.run_next_any_at wr w.heap.size a0 pos ty hit hp
      have hd1 := decode_le a0 pos
      have hit2 := Lib.iterAt_heap wr w.heap.size a0 pos (pos + (Utf8.decode a0 pos).2) hit
      have hb2 := Lib.below_iterAt hB (k := w.heap.size) (Nat.le_refl _) a0 (pos + (Utf8.decode a0 pos).2)
      have hr2 := Kd.R_grown hR (w1 := wr.iterAt w.heap.size a0 (pos + (Utf8.decode a0 pos).2)) (row := some w.heap.size) ⟨rfl, rfl, rfl, by rw [Lib.iterAt_size]; exact Nat.le_refl _, fun i hi hk => Lib.iterAt_other wr w.heap.size i a0 _ (fun e => hk (by rw [e]))⟩ (fun k hk e => hk (by injection e))
      have hgw2 := HGW.out.below hb2
      have hs2 := HS.out
      obtain ⟨f, rfl⟩ : ∃ f, fuel = f + 1 := ⟨fuel - 1, by omega⟩
      have HL := Aside0.mk hL
      have HIT := Aside0.mk hit
      have HIT2 := Aside0.mk hit2
      have HB2 := Aside0.mk hb2
      have HR2 := Aside0.mk hr2
      have HG2 := Aside0.mk hgw2
      have HT := Aside0.mk (decodeGo_tail a0 pos hp)
      have hpi : (pos : Int) ≤ a0.size := by omega
      clear hL hit hit2 hb2 hr2 hgw2 hB hR
      go_wp2_with (first
        | (go_at_call 79; refine (Any.utf8_DecodeRuneInString Tryd.ly197 _ _ HG2.out.u8).mono ?_; rintro e W2 ⟨rfl, hb⟩; have hT := HT.out; rw [hT]; have HB3 := Aside0.mk (below_step HB2.out hb); have HR3 := Aside0.mk (Kd.R_below HR2.out hb); have HIT3 := Aside0.mk (blk_below HIT2.out hb); clear hT hb)
        | ((with_reducible refine gate_builtin (b := .append) (xs := #[.tmp 21, .tmp 26]) rfl ?_); at_builtin; refine Kd.R_append k87 (w0 := w) w.heap.size rfl (.tmp 21) (.tmp 26) 84 87 (.agg #[(.int .i32 0), (.int .i64 0), (.int .i64 0)]) 24 rfl Tryd.underlying84 info87 rfl (by decide) (by omega) u3 acc ⟨((Utf8.decode a0 pos).1 : Int), (pos : Int), ((Utf8.decode a0 pos).2 : Int)⟩ [.int .i32 ((Utf8.decode a0 pos).1 : Int), .int .i64 (pos : Int), .int .i64 ((Utf8.decode a0 pos).2 : Int)] (fun k => k ≠ w.heap.size) (fun _ => False) rfl rfl ?aP (fun _ hk => hk.elim) ?aF ?aO ?aB ?aS ?aL ?_; (case aP => exact k87_mkM _ _ _ (⟨((Utf8.decode a0 pos).1 : Int), (pos : Int), ((Utf8.decode a0 pos).2 : Int)⟩ : S87)); (case aB => exact HB3.out); (case aF => exact (fun k hk e => by have := blk_lt HIT3.out; omega)); (case aO => exact HR3.out); (case aS => exact (below_size HB3.out)); (case aL => omega); intro v121 w8 ho hb hg hat; have HIT8 := Aside0.mk (blk_grown HIT3.out hg (fun e => HR3.out.1 _ e.symm rfl)); have HB8 := Aside0.mk hb; have HR8 := Aside0.mk ho; clear ho hb hg hat))
      go_roundw
      case rel => exact (RunesRel.next hp HL.out hfu hal HIT.out HIT8.out HB8.out HR8.out).1
      case measure => exact (RunesRel.next hp HL.out hfu hal HIT.out HIT8.out HB8.out HR8.out).2
    · have hnx : ∀ ty, (Instr.next (.pointer (some ⟨w.heap.size, 0, none⟩)) true ty).run Tryd.prog wr = _ := fun ty => Lib.run_next_end_at wr w.heap.size a0 pos ty hit hp
      rw [runesFrom_end a0 fuel pos hp, List.append_nil] at hL
      have HB := Aside0.mk hB
      have HR := Aside0.mk hR
      have HL := Aside0.mk hL
      clear hit hB hR hL
      go_wp2
      go_ret
      exact ⟨_, rfl, by rw [← HP.out, ← HL.out]; exact Kd.R_mono HR.out (fun _ _ => trivial), HB.out⟩
end Go.Proofs.YtphmgaijkdflnaaDoor.H
end
section
namespace Go.Proofs.YtphmgaijkdflnaaDoor.H
open Go.RowKit Go.Proofs.YtphmgaijkdflnaaDoorW.PrintWords Go.Proofs.YtphmgaijkdflnaaDoorW.PrintLast Go.Proofs.YtphmgaijkdflnaaDoorW.PrintMore
open Go.Maps
set_option linter.unusedVariables false
set_option linter.unusedSimpArgs false
def hexD (d : Nat) : UInt8 := UInt8.ofNat (if d < 10 then 48 + d else 87 + d)
def hexL : Nat → Nat → List UInt8 → List UInt8
  | 0, u, acc => hexD (u % 16) :: acc
  | f + 1, u, acc => if 16 ≤ u then hexL f (u / 16) (hexD (u % 16) :: acc) else hexD u :: acc
set_option maxRecDepth 100000 in
set_option maxHeartbeats 1000000 in
theorem pow2_calls (w : World) : Calls Tryd.prog 95 #[.int .i64 16] w fun e w' => e = .returned (.bool true) ∧ w' = w := by
  go_enter Tryd.func95, Tryd.ntmps95
  go_wp2
  go_ret
  exact ⟨rfl, rfl⟩
set_option maxRecDepth 100000 in
set_option maxHeartbeats 1000000 in
theorem tz64_calls (w : World) (hdb : w.cell? ⟨4, 15, none⟩ = some (.int .u8 4)) : Calls Tryd.prog 98 #[.int .u64 16] w fun e w' => e = .returned (.int .i64 4) ∧ w' = w := by
  go_enter Tryd.func98, Tryd.ntmps98
  have e1 : bits BinOp.and IntKind.u64 16 (IntKind.u64.wrap (-16)) = 16 := by kernel_rfl
  have e2 : IntKind.u64.wrap (16 * 285870213051353865) = 4573923408821661840 := by kernel_rfl
  go_wp2
  go_ret
  exact ⟨rfl, rfl⟩
set_option maxRecDepth 100000 in
theorem tz_calls (w : World) (hdb : w.cell? ⟨4, 15, none⟩ = some (.int .u8 4)) : Calls Tryd.prog 96 #[.int .u64 16] w fun e w' => e = .returned (.int .i64 4) ∧ w' = w := by
  go_enter Tryd.func96, Tryd.ntmps96
  go_wp2_with (go_at_call 98; refine (tz64_calls _ hdb).mono ?_; rintro e w' ⟨rfl, rfl⟩)
  go_ret
  exact ⟨rfl, rfl⟩
def Row65 (g i : Nat) (acc : List UInt8) (w : World) : Prop :=
  ∃ cs : Array Value, w.heap[g]? = some (.cells cs 124 (0, 0)) ∧ cs.size = 65 ∧ i + acc.length = 65 ∧ (∀ j, j < 65 → ∃ c : Int, cs[j]? = some (.int .u8 c)) ∧ ∀ j (hj : j < acc.length), cs[i + j]? = some (.int .u8 (acc[j].toNat : Int))
theorem Row65.new (w : World) : Row65 w.heap.size 65 [] (w.alloc (.cells (Array.replicate 65 (.int .u8 0)) 124)) :=
  ⟨_, blk_new w _, by simp, rfl, fun j hj => ⟨0, by simp [hj]⟩, fun j hj => by simp at hj⟩
theorem Row65.cell {g i : Nat} {acc : List UInt8} {w : World} (h : Row65 g i acc w) (j : Nat) (hj : j < 65) : ∃ c : Int, w.cell? ⟨g, j, none⟩ = some (.int .u8 c) ∧ w.frozen? ⟨g, j, none⟩ = false := by
  obtain ⟨cs, hb, hs, hl, hall, hacc⟩ := h
  obtain ⟨c, hc⟩ := hall j hj
  exact ⟨c, (blk_cell hb j).trans hc, blk_frozen hb j⟩
theorem Row65.put {g i : Nat} {acc : List UInt8} {w : World} (h : Row65 g (i + 1) acc w) (c : UInt8) : Row65 g i (c :: acc) (w.setCell ⟨g, i, none⟩ (.int .u8 (c.toNat : Int))) := by
  obtain ⟨cs, hb, hs, hl, hall, hacc⟩ := h
  refine ⟨_, blk_put hb i _ rfl, by simp [hs], by simp; omega, fun j hj => ?_, fun j hj => ?_⟩
  · by_cases e : i = j
    · subst e; exact ⟨_, by rw [Array.getElem?_setIfInBounds_self_of_lt (by omega)]⟩
    · rw [Array.getElem?_setIfInBounds_ne e]; exact hall j hj
  · cases j with
    | zero => rw [Nat.add_zero, Array.getElem?_setIfInBounds_self_of_lt (by omega)]; rfl
    | succ j =>
      rw [Array.getElem?_setIfInBounds_ne (by omega)]
      have := hacc j (by simpa using hj)
      rw [show i + (j + 1) = i + 1 + j by omega]
      simpa using this
theorem Row65.read {g i : Nat} {acc : List UInt8} {w : World} (h : Row65 g i acc w) (cap : Nat) : (convert 50 9 (.slice (some ⟨g, i, none⟩) (65 - i) cap)).run Tryd.prog w = .ok (.string ⟨acc.toArray⟩) w := by
  obtain ⟨cs, hb, hs, hl, hall, hacc⟩ := h
  rw [show 65 - i = acc.length by omega]
  refine run_convert_bytes_back w 50 9 5 ⟨g, i, none⟩ cap acc Tryd.underlying50 Tryd.underlying5 Tryd.underlying9 (fun j hj => ?_)
  have : (⟨g, i, none⟩ : Addr).add j = ⟨g, i + j, none⟩ := by cases j <;> simp [Addr.add]
  rw [this, blk_cell hb]
  exact hacc j hj
theorem dig36 (d : Nat) (hd : d < 16) : ∀ h, (⟨#[48, 49, 50, 51, 52, 53, 54, 55, 56, 57, 97, 98, 99, 100, 101, 102, 103, 104, 105, 106, 107, 108, 109, 110, 111, 112, 113, 114, 115, 116, 117, 118, 119, 120, 121, 122]⟩ : ByteArray)[d]'h = hexD d := by
  have H : ∀ d, d < 16 → ∀ h, (⟨#[48, 49, 50, 51, 52, 53, 54, 55, 56, 57, 97, 98, 99, 100, 101, 102, 103, 104, 105, 106, 107, 108, 109, 110, 111, 112, 113, 114, 115, 116, 117, 118, 119, 120, 121, 122]⟩ : ByteArray)[d]'h = hexD d := by decide
  exact H d hd
theorem sl65 (g j : Nat) (hj : j < 65) (W : World) : (Instr.sliceAt 124 (.pointer (some ⟨g, 0, none⟩)) (some (.int .i64 (j : Int))) none none).run Tryd.prog W = .ok (.slice (some ⟨g, j, none⟩) (65 - j) (65 - j)) W := by
  have hal : Tryd.prog.arrayLen 124 = 65 := by simp [Program.arrayLen, Tryd.underlying124]
  rw [run_sliceAt_array_l W 124 ⟨g, 0, none⟩ (by simp [Program.arrayLen, Program.elem, Tryd.underlying124]) .i64 (j : Int) (by omega) (by rw [hal]; omega)]
  rw [hal]
  go_simp
  omega
def FbRel (g u : Nat) (vu vi : Value) (w wr : World) : Prop :=
  ∃ (f v i : Nat) (acc : List UInt8), vu = .int .u64 (v : Int) ∧ vi = .int .i64 (i : Int) ∧ v < 16 ^ (f + 1) ∧ f + 50 ≤ i ∧ i ≤ 65 ∧ f ≤ 14 ∧ hexL f v acc = hexL 14 u [] ∧ Row65 g i acc wr ∧ Below g w wr
theorem fb_and (v : Nat) (h : v < 18446744073709551616) : bits BinOp.and IntKind.u64 (v : Int) 15 = ((v % 16 : Nat) : Int) := by
  have := bits_mask .u64 64 (by decide) (fun n h0 h1 => by simp [IntKind.wrap, IntKind.bits, IntKind.signed]; omega) 4 (by decide) (v : Int) (by omega) (by omega)
  simpa using this
set_option maxRecDepth 100000 in
set_option maxHeartbeats 4000000 in
theorem formatBits_calls (u : Nat) (hu : u < 2147483648) (w : World) (hdb : w.cell? ⟨4, 15, none⟩ = some (.int .u8 4)) :
    Calls Tryd.prog 91 #[.slice none 0 0, .int .u64 (u : Int), .int .i64 16, .bool false, .bool false] w fun e w' => e = .returned (.tuple #[.slice none 0 0, .string ⟨(hexL 14 u []).toArray⟩]) ∧ Below w.heap.size w w' := by
  have HDB := Aside0.mk (cell_below hdb (below_alloc (Below.refl _ w) (.cells (Array.replicate 65 (.int .u8 0)) 124)))
  clear hdb
  go_enter Tryd.func91, Tryd.ntmps91
  go_wp2_with (first
    | (go_at_call 95; refine (pow2_calls _).mono ?_; rintro e w' ⟨rfl, rfl⟩)
    | (go_at_call 96; refine (tz_calls _ ?_).mono ?_; (case _ => exact HDB.out); rintro e w' ⟨rfl, rfl⟩))
  go_loopw [1, 13] (fun vu vi wr => FbRel w.heap.size u vu vi w wr) (fun vu _ _ => (intOf vu).toNat)
  case atStart => exact ⟨14, u, 65, [], rfl, rfl, by omega, by omega, by omega, by omega, rfl, Row65.new w, below_alloc (Below.refl _ _) _⟩
  case round =>
    obtain ⟨f, v, i, acc, rfl, rfl, hv, hi, hi2, hf, hL, hR, hB⟩ := hrel
    have hv64 : v < 18446744073709551616 := by
      have : (16 : Nat) ^ (f + 1) ≤ 16 ^ 15 := Nat.pow_le_pow_right (by omega) (by omega)
      omega
    obtain ⟨c, hc, hfz⟩ := hR.cell (i - 1) (by omega)
    obtain ⟨j, rfl⟩ : ∃ j, i = j + 1 := ⟨i - 1, by omega⟩
    rw [Nat.add_sub_cancel] at hc hfz
    have hd16 : v % 16 < 16 := Nat.mod_lt _ (by omega)
    have hij : ((j + 1 : Nat) : Int) - 1 = (j : Int) := by omega
    have hjn : ((j : Int)).toNat = j := rfl
    have HV := Aside0.mk hv
    have HL := Aside0.mk hL
    have HR := Aside0.mk hR
    have HB := Aside0.mk hB
    clear hv hL hR hB
    by_cases h16 : 16 ≤ v
    · have h16b : decide ((v : Int) ≥ 16) = true := by simp; omega
      have hdg := dig36 (v % 16) (by omega)
      have hand := fb_and v hv64
      go_wp2
      go_roundw
      case rel =>
        have hf1 : 1 ≤ f := by
          have := HV.out
          cases f with
          | zero => omega
          | succ f => omega
        refine ⟨f - 1, v / 16, j, hexD (v % 16) :: acc, by push_cast; rfl, rfl, ?_, by omega, by omega, by omega, ?_, HR.out.put _, HB.out.setCell (p := ⟨w.heap.size, j, none⟩) (Nat.le_refl _) _⟩
        · have := HV.out
          cases f with
          | zero => omega
          | succ f => rw [Nat.pow_succ] at this; simp only [Nat.add_sub_cancel]; omega
        · rw [← HL.out]
          cases f with
          | zero => have := HV.out; omega
          | succ f => simp only [Nat.add_sub_cancel, hexL]; rw [if_pos h16]
      case measure => simp [intOf]; omega
    · have h16b : decide ((v : Int) ≥ 16) = false := by simp; omega
      have hdg := dig36 v (by omega)
      have hsl := sl65 w.heap.size j (by omega)
      have hcv := (HR.out.put (hexD v)).read (65 - j)
      go_wp2
      go_ret2
      have e : hexD v :: acc = hexL 14 u [] := by
        rw [← HL.out]
        cases f with
        | zero => simp only [hexL]; rw [Nat.mod_eq_of_lt (by omega)]
        | succ f => simp only [hexL]; rw [if_neg h16]
      exact ⟨by rw [e]; rfl, HB.out.setCell (p := ⟨w.heap.size, j, none⟩) (Nat.le_refl _) _⟩
set_option maxRecDepth 100000 in
set_option maxHeartbeats 1000000 in
theorem formatInt16_calls (u : Nat) (hu : u < 2147483648) (w : World) (hdb : w.cell? ⟨4, 15, none⟩ = some (.int .u8 4)) :
    Calls Tryd.prog 87 #[.int .i64 (u : Int), .int .i64 16] w fun e w' => e = .returned (.string ⟨(hexL 14 u []).toArray⟩) ∧ Below w.heap.size w w' := by
  have HDB := Aside0.mk hdb
  clear hdb
  go_enter Tryd.func87, Tryd.ntmps87
  go_wp2_with (go_at_call 91; refine (formatBits_calls _ hu _ HDB.out).mono ?_; rintro e w' ⟨rfl, hb⟩)
  go_ret
  exact ⟨rfl, hb⟩
set_option maxRecDepth 100000 in
set_option maxHeartbeats 1000000 in
theorem formatInt16p_calls (u : Nat) (hu : u < 2147483648) (w : World) (hdb : w.cell? ⟨4, 15, none⟩ = some (.int .u8 4)) :
    Calls Tryd.prog 80 #[.int .i64 (u : Int), .int .i64 16] w fun e w' => e = .returned (.string ⟨(hexL 14 u []).toArray⟩) ∧ Below w.heap.size w w' := by
  have HDB := Aside0.mk hdb
  clear hdb
  go_enter Tryd.func80, Tryd.ntmps80
  go_wp2_with (go_at_call 87; refine (formatInt16_calls _ hu _ HDB.out).mono ?_; rintro e w' ⟨rfl, hb⟩)
  go_ret
  exact ⟨rfl, hb⟩
def text_hex.f (n : Int) : Option ByteArray := if 0 ≤ n ∧ n < 2147483648 then some ⟨(hexL 14 n.toNat []).toArray⟩ else none
set_option maxRecDepth 100000 in
theorem text_hex.calls (a0 : Int) (r : ByteArray) (w : World) (hgw : GW w) (h : text_hex.f a0 = some r) :
    Calls Tryd.prog 68 #[.int .i32 a0] w fun e w' => e = .returned (.string r) ∧ Below w.heap.size w w' := by
  unfold text_hex.f at h
  split at h
  case isFalse => cases h
  rename_i hs
  have HP := Aside0.mk (Option.some.inj h)
  obtain ⟨u, rfl⟩ := Int.eq_ofNat_of_zero_le hs.1
  have hu : u < 2147483648 := by omega
  have HDB := Aside0.mk (hgw.db 15 (by decide))
  clear h hs hgw
  go_enter Tryd.func68, Tryd.ntmps68
  go_wp2_with (go_at_call 80; refine (formatInt16p_calls u hu _ HDB.out).mono ?_; rintro e w' ⟨rfl, hb⟩)
  go_ret
  exact ⟨by rw [← HP.out]; rfl, hb⟩
end Go.Proofs.YtphmgaijkdflnaaDoor.H
end
section
namespace Go.Proofs.YtphmgaijkdflnaaDoor.H
open Go.RowKit Go.Proofs.YtphmgaijkdflnaaDoorW.PrintWords Go.Proofs.YtphmgaijkdflnaaDoorW.PrintLast Go.Proofs.YtphmgaijkdflnaaDoorW.PrintMore
open Go.Maps
set_option linter.unusedVariables false
set_option linter.unusedSimpArgs false
def Bd (g : Nat) (acc : List UInt8) (w : World) : Prop := Lib.IsBuilderF 69 5 g g (Lib.byteCells acc) w
theorem Bd.new (w : World) : Bd w.heap.size [] (w.alloc (.cells #[.pointer none, .slice none 0 0] 69)) := .of (Lib.fresh_isBuilder _ _ w)
theorem Bd.lt {g : Nat} {acc : List UInt8} {w : World} (h : Bd g acc w) : g < w.heap.size := by
  rcases h with h | h
  · exact h.lt
  · exact h.lt
theorem bat_below {T e : TypeId} {B b : Nat} {p : Value} {bs : List Value} {w W : World} (h : Lib.BuilderAtF T e B b p bs w) (hb : Below w.heap.size w W) : Lib.BuilderAtF T e B b p bs W := by
  obtain ⟨hB, v, hbk, hown, hne⟩ := h
  exact ⟨hB, v, blk_below hbk hb, hown.kept (grown_of_below hb none) (by cases v.ownBlock <;> simp), hne⟩
theorem Bd.below {g : Nat} {acc : List UInt8} {w W : World} (h : Bd g acc w) (hb : Below w.heap.size w W) : Bd g acc W := by
  rcases h with h | h
  · exact .inl (bat_below h hb)
  · exact .inr (bat_below h hb)
theorem Bd.alloc {g : Nat} {acc : List UInt8} {w : World} (h : Bd g acc w) (o : Obj) : Bd g acc (w.alloc o) := h.below (below_alloc (Below.refl _ _) o)
theorem Bd.drewN {g : Nat} {acc : List UInt8} {w : World} (h : Bd g acc w) (n : Nat) : Bd g acc (w.drewN n) := h.below (pw_below_drewN (Below.refl _ _) n)
theorem Bd.write {g : Nat} {acc : List UInt8} {w : World} (h : Bd g acc w) (s : ByteArray) (hlen : acc.length + s.size ≤ 140737488355328) :
    Calls Tryd.prog 45 #[.pointer (some ⟨g, 0, none⟩), .string s] w fun e w' => e = .returned (.tuple #[.int .i64 s.size, .nilIface]) ∧ Bd g (acc ++ s.data.toList) w' ∧ Below g w w' ∧ Lib.OthersKept 5 (some g) w w' := by
  refine (Any.Builder_WriteString_k Tryd.ly166 Tryd.bx g g _ s w h (by rw [Lib.byteCells_length]; exact hlen) (Nat.le_of_lt h.lt)).mono ?_
  rintro e w' ⟨rfl, h1, h2, h3⟩
  refine ⟨rfl, ?_, h2, h3⟩
  unfold Bd
  rw [Lib.byteCells_append]
  exact Or.inr h1
theorem Bd.string {g : Nat} {acc : List UInt8} {w : World} (h : Bd g acc w) :
    Calls Tryd.prog 46 #[.pointer (some ⟨g, 0, none⟩)] w fun e w' => e = .returned (.string ⟨acc.toArray⟩) ∧ Below g w w' := by
  refine (Any.Builder_String_any_k Tryd.ly169 Tryd.bx g g acc w h (Nat.le_of_lt h.lt)).mono ?_
  rintro e w' ⟨rfl, _, h2, _⟩
  exact ⟨rfl, h2⟩
theorem keep_blk {g k : Nat} {w W : World} {c : Array Value} {T : TypeId} {fz : Nat × Nat} (h : Lib.OthersKept 5 (some g) w W) (hk : w.heap[k]? = some (.cells c T fz)) (hne : k ≠ g) (hT : T ≠ 5) : W.heap[k]? = some (.cells c T fz) :=
  h k _ hk (by simpa using hne) (fun c' fz' e => hT (by injection e))
theorem Bd.byte {g : Nat} {acc : List UInt8} {w : World} (h : Bd g acc w) (c : UInt8) (hlen : acc.length + 1 ≤ 140737488355328) :
    Calls Tryd.prog 66 #[.pointer (some ⟨g, 0, none⟩), .int .u8 c.toNat] w fun e w' => e = .returned .nilIface ∧ Bd g (acc ++ [c]) w' ∧ Below g w w' ∧ Lib.OthersKept 5 (some g) w w' := by
  refine (Any.Builder_WriteByte_k Tryd.ly167 Tryd.bx g g _ c.toNat w h (by rw [Lib.byteCells_length]; exact hlen) (Nat.le_of_lt h.lt)).mono ?_
  rintro e w' ⟨rfl, h1, h2, h3⟩
  refine ⟨rfl, ?_, h2, h3⟩
  unfold Bd
  rw [Lib.byteCells_append]
  exact Or.inr h1
end Go.Proofs.YtphmgaijkdflnaaDoor.H
end
section
namespace Go.Proofs.YtphmgaijkdflnaaDoor.H
open Go.RowKit Go.Proofs.YtphmgaijkdflnaaDoorW.PrintWords Go.Proofs.YtphmgaijkdflnaaDoorW.PrintLast Go.Proofs.YtphmgaijkdflnaaDoorW.PrintMore
open Go.Maps
set_option linter.unusedVariables false
set_option linter.unusedSimpArgs false
def escOf (s : ByteArray) (x : S87) : List UInt8 :=
  if x.f0 = 65533 ∧ x.f2 = 1 then [92, 120, 123] ++ hexL 14 (s.get! x.f1.toNat).toNat [] ++ [125]
  else if x.f0 = 10 then [92, 110] else if x.f0 = 13 then [92, 114] else if x.f0 = 9 then [92, 116]
  else if x.f0 = 34 ∨ x.f0 = 92 then [92, x.f0.toNat.toUInt8]
  else if x.f0 < 32 ∨ x.f0 > 126 then [92, 117, 123] ++ hexL 14 x.f0.toNat [] ++ [125]
  else [x.f0.toNat.toUInt8]
def quoteB (s : ByteArray) (rs : List S87) : List UInt8 := 34 :: rs.flatMap (escOf s)
def text_Quote.f (a0 : ByteArray) : Option ByteArray := if a0.size ≤ 4398046511104 then some (⟨(quoteB a0 (runesL a0)).toArray⟩ ++ ⟨#[34]⟩) else none
theorem hexL_len (f : Nat) : ∀ u acc, (hexL f u acc).length ≤ f + 1 + acc.length := by
  induction f with
  | zero => intro u acc; simp [hexL]; omega
  | succ f ih =>
    intro u acc
    simp only [hexL]
    split
    · have := ih (u / 16) (hexD (u % 16) :: acc); simp at this; omega
    · simp; omega
theorem escOf_len (s : ByteArray) (x : S87) : (escOf s x).length ≤ 20 := by
  have h1 := hexL_len 14 (s.get! x.f1.toNat).toNat []
  have h2 := hexL_len 14 x.f0.toNat []
  simp only [List.length_nil] at h1 h2
  unfold escOf
  repeat' split
  all_goals simp
  all_goals omega
theorem flatMap_esc_len (s : ByteArray) (rs : List S87) : (rs.flatMap (escOf s)).length ≤ 20 * rs.length := by
  induction rs with
  | nil => simp
  | cons x r ih => have := escOf_len s x; simp only [List.flatMap_cons, List.length_append, List.length_cons]; omega
theorem runesFrom_mem (s : ByteArray) (f : Nat) : ∀ pos, ∀ x ∈ runesFrom s f pos, (0 ≤ x.f0 ∧ x.f0 ≤ 1114111) ∧ 0 ≤ x.f1 ∧ x.f1 < s.size := by
  induction f with
  | zero => intro pos x hx; simp [runesFrom] at hx
  | succ f ih =>
    intro pos x hx
    simp only [runesFrom] at hx
    split at hx
    · rename_i hp
      rcases List.mem_cons.1 hx with rfl | hx
      · have := Lib.rune_le s pos
        exact ⟨⟨by simp, by simp; omega⟩, by simp, by simp; omega⟩
      · exact ih _ x hx
    · simp at hx
theorem runesFrom_len (s : ByteArray) (f : Nat) : ∀ pos, (runesFrom s f pos).length ≤ s.size - pos := by
  induction f with
  | zero => intro pos; simp [runesFrom]
  | succ f ih =>
    intro pos
    simp only [runesFrom]
    split
    · have := ih (pos + (Utf8.decode s pos).2); have := rune_w_pos s pos; simp only [List.length_cons]; omega
    · simp
theorem R_others {α : Type} {d : Kd α} {e base g : Nat} {ok : Nat → Prop} {w W : World} {v : Value} {xs : List α} (h : d.R e w base ok v xs) (hE : d.E = []) (hk : Lib.OthersKept 5 (some g) w W) (hne : e ≠ 5) (hg : g < base) : d.R e W base ok v xs :=
  Kd.R_mono (Kd.R_step (Kd.R_bound h) (fun k hk1 _ => by
    obtain ⟨_, h2, _, q, hq, cs, hc⟩ := hk1
    rw [hE] at hq
    simp only [List.mem_singleton] at hq
    subst hq
    exact (hk k _ hc (fun e_ => by injection e_ with e_; omega) (fun c' fz' e_ => hne (by injection e_))).trans hc.symm)) (fun _ hk1 => hk1.1)
theorem hex_any (n : Int) (h0 : 0 ≤ n) (h1 : n < 2147483648) (w : World) (hgw : GW w) : Calls Tryd.prog 68 #[.int .i32 n] w fun e w' => ∃ hx : ByteArray, e = .returned (.string hx) ∧ Aside0 (hx.data.toList = hexL 14 n.toNat []) ∧ hx.size ≤ 15 ∧ Below w.heap.size w w' := by
  have h := hexL_len 14 n.toNat []
  simp only [List.length_nil] at h
  refine (text_hex.calls n ⟨(hexL 14 n.toNat []).toArray⟩ w hgw (by unfold text_hex.f; rw [if_pos ⟨h0, h1⟩])).mono ?_
  rintro e w' ⟨rfl, hb⟩
  exact ⟨_, rfl, ⟨by simp⟩, by simp [ByteArray.size]; omega, hb⟩
theorem write_len {acc : List UInt8} {s : ByteArray} (h : acc.length ≤ 140737488355000) (hs : s.size ≤ 100) : acc.length + s.size ≤ 140737488355328 := by omega
def QRel (s : ByteArray) (rs : List S87) (w : World) (v vi : Value) (wr : World) : Prop :=
  ∃ k : Nat, k ≤ rs.length ∧ vi = .int .i64 (k : Int) ∧ Bd w.heap.size (quoteB s (rs.take k)) wr ∧ Below w.heap.size w wr ∧ Kd.R k87 87 wr (w.heap.size + 1) (fun _ => True) v rs
theorem QRel.next {s : ByteArray} {rs : List S87} {w W : World} {v : Value} {k : Nat} (hk : k < rs.length) {acc : List UInt8} (hb : Bd w.heap.size acc W) (he : acc = quoteB s (rs.take k) ++ escOf s (rs[k])) (hB : Below w.heap.size w W)
    (hR : Kd.R k87 87 W (w.heap.size + 1) (fun _ => True) v rs) : QRel s rs w v (.int .i64 ((k : Int) + 1)) W := by
  refine ⟨k + 1, hk, by push_cast; rfl, ?_, hB, hR⟩
  rw [he] at hb
  rw [List.take_succ_eq_append_getElem hk]
  have e : quoteB s (rs.take k ++ [rs[k]]) = quoteB s (rs.take k) ++ escOf s rs[k] := by
    unfold quoteB
    rw [List.flatMap_append]
    simp only [List.flatMap_cons, List.flatMap_nil, List.append_nil, List.cons_append]
  rw [e]
  exact hb
set_option maxRecDepth 100000 in
set_option maxHeartbeats 8000000 in
theorem text_Quote.calls (a0 : ByteArray) (r : ByteArray) (w : World) (hgw : GW w) (h : text_Quote.f a0 = some r) :
    Calls Tryd.prog 44 #[.string a0] w fun e w' => e = .returned (.string r) ∧ Below w.heap.size w w' := by
  unfold text_Quote.f at h
  split at h
  case isFalse => cases h
  rename_i hs
  have HP := Aside0.mk (Option.some.inj h)
  have HS := Aside0.mk hs
  have HGW := Aside0.mk hgw
  have HRF := Aside0.mk (show text_Runes.f a0 = some (runesL a0) by unfold text_Runes.f; rw [if_pos hs])
  have HRL := Aside0.mk (show (runesL a0).length ≤ 4398046511104 from Nat.le_trans (runesFrom_len a0 a0.size 0) (by omega))
  have HRM := Aside0.mk (fun x hx => runesFrom_mem a0 a0.size 0 x hx : ∀ x ∈ runesL a0, (0 ≤ x.f0 ∧ x.f0 ≤ 1114111) ∧ 0 ≤ x.f1 ∧ x.f1 < a0.size)
  have HB0 := Aside0.mk (Bd.new w)
  clear h hs hgw
  obtain ⟨rs, hrs⟩ : ∃ rs, runesL a0 = rs := ⟨_, rfl⟩
  rw [hrs] at HP HRF HRL HRM
  clear hrs
  go_enter Tryd.func44, Tryd.ntmps44
  go_wp2_with (first
    | (go_at_call 66; refine (HB0.out.byte 34 (by simp)).mono ?_; rintro e w1 ⟨rfl, hb1, hB1, hO1⟩; have HB1 := Aside0.mk hb1; have HL1 := Aside0.mk ((below_alloc (Below.refl w.heap.size w) _).trans hB1); clear hb1 hB1 hO1)
    | (go_at_call 67; refine (text_Runes.calls a0 rs _ (HGW.out.below HL1.out) HRF.out).mono ?_; rintro e w2 ⟨v, rfl, hR, hb⟩; obtain ⟨A, c, rfl⟩ := Kd.R_slice hR; have HB2 := Aside0.mk (HB1.out.below hb); have HR2 := Aside0.mk (Kd.R_lower hR (show w.heap.size + 1 ≤ w1.heap.size from HB1.out.lt)); have HL2 := Aside0.mk (below_step HL1.out hb); clear hR hb))
  go_loopw [10] (fun v10 wr => QRel a0 rs w (.slice A rs.length c) v10 wr) (fun v10 _ => rs.length - (intOf v10).toNat)
  case atStart => exact ⟨0, Nat.zero_le _, rfl, HB2.out, HL2.out, HR2.out⟩
  case round =>
    obtain ⟨k, hk, rfl, hb, hB, hR⟩ := hrel
    have hn := HRL.out
    by_cases hlt : k < rs.length
    · have hm := HRM.out _ (List.getElem_mem hlt)
      obtain ⟨ad, hA, hx0, hx1, hx2⟩ := at_T87 (Kd.R_reads' hR).2.2 (k : Int) (by omega) (by omega)
      have hrd : rd_T87 rs (k : Int) = rs[k] := by simp [rd_T87, List.getD_eq_getElem?_getD, List.getElem?_eq_getElem hlt]
      rw [hrd] at hx0 hx1 hx2
      simp only [Int.toNat_natCast] at hx0 hx1 hx2
      cases hA
      obtain ⟨⟨f0, f1, f2⟩, hx⟩ : ∃ x, rs[k] = x := ⟨_, rfl⟩
      rw [hx] at hx0 hx1 hx2 hm
      dsimp only at hx0 hx1 hx2 hm
      obtain ⟨⟨m0, m1⟩, m2, m3⟩ := hm
      have HX := Aside0.mk hx
      have HB := Aside0.mk hb
      have HL := Aside0.mk hB
      have HR := Aside0.mk hR
      have hq : (quoteB a0 (rs.take k)).length ≤ 140737488355000 := by
        have h1 := flatMap_esc_len a0 (rs.take k)
        have h2 : (rs.take k).length ≤ k := List.length_take_le _ _
        simp only [quoteB, List.length_cons]; omega
      have HQ := Aside0.mk hq
      clear hx hb hB hR hrd hq
      by_cases t1 : f0 = 65533
      · subst t1
        by_cases t2 : f2 = 1
        · subst t2
          have hby : (a0.get! f1.toNat) = a0[f1.toNat]'(by omega) := get_at a0 f1.toNat (by omega)
          have HBY := Aside0.mk hby
          obtain ⟨c8, hc8⟩ : ∃ c8 : UInt8, (a0[f1.toNat]'(by omega)) = c8 := ⟨_, rfl⟩
          rw [hc8] at HBY
          have hc8' : ∀ h, a0[f1.toNat]'h = c8 := fun _ => hc8
          clear hc8 hby
          have h8 := c8.toNat_lt
          have hwb : wrap32 (c8.toNat : Int) = (c8.toNat : Int) := by unfold wrap32; omega
          go_wp2_with (first
            | (go_at_call 68; refine (hex_any _ ?h1 ?h2 _ ?h3).mono ?_; (case h1 => omega); (case h2 => omega); (case h3 => exact HGW.out.below (below_alloc HL.out _)); rintro e w1 ⟨hx, rfl, HX1, hx2, hb1⟩; have HB1 := Aside0.mk ((HB.out.alloc _).below hb1); have HL1 := Aside0.mk (below_step (below_alloc HL.out _) hb1); have HR1 := Aside0.mk (Kd.R_below (Kd.R_alloc HR.out _) hb1); clear hb1; have hz1 : (9223372036854775807 < 3 + hx.size) = False := eq_false (by omega); have hz2 : (9223372036854775807 < 3 + hx.size + 1) = False := eq_false (by omega))
            | (go_at_call 45; refine (Bd.write HB1.out _ ?h4).mono ?_; (case h4 => exact write_len HQ.out (by first | decide | (simp only [ByteArray.size_append]; show 3 + hx.size + 1 ≤ 100; omega))); rintro e w2 ⟨rfl, hb2, hB2, hO2⟩; have HB2 := Aside0.mk hb2; have HL2 := Aside0.mk (HL1.out.trans hB2); have HR2 := Aside0.mk (R_others HR1.out rfl hO2 (by decide) (Nat.lt_succ_self _)); clear hb2 hB2 hO2))
          go_roundw
          case rel => exact QRel.next hlt HB2.out (by rw [HX.out]; simp [escOf, HX1.out, HBY.out]) HL2.out HR2.out
          case measure => simp [intOf]; omega
        · have t2b : (f2 == 1) = false := by simpa using t2
          go_wp2_with (first
            | (go_at_call 68; refine (hex_any _ ?h1 ?h2 _ ?h3).mono ?_; (case h1 => omega); (case h2 => omega); (case h3 => exact HGW.out.below (below_alloc HL.out _)); rintro e w1 ⟨hx, rfl, HX1, hx2, hb1⟩; have HB1 := Aside0.mk ((HB.out.alloc _).below hb1); have HL1 := Aside0.mk (below_step (below_alloc HL.out _) hb1); have HR1 := Aside0.mk (Kd.R_below (Kd.R_alloc HR.out _) hb1); clear hb1; have hz1 : (9223372036854775807 < 3 + hx.size) = False := eq_false (by omega); have hz2 : (9223372036854775807 < 3 + hx.size + 1) = False := eq_false (by omega))
            | (go_at_call 45; refine (Bd.write HB1.out _ ?h4).mono ?_; (case h4 => exact write_len HQ.out (by first | decide | (simp only [ByteArray.size_append]; show 3 + hx.size + 1 ≤ 100; omega))); rintro e w2 ⟨rfl, hb2, hB2, hO2⟩; have HB2 := Aside0.mk hb2; have HL2 := Aside0.mk (HL1.out.trans hB2); have HR2 := Aside0.mk (R_others HR1.out rfl hO2 (by decide) (Nat.lt_succ_self _)); clear hb2 hB2 hO2))
          go_roundw
          case rel => exact QRel.next hlt HB2.out (by rw [HX.out]; simp [escOf, HX1.out, t2]) HL2.out HR2.out
          case measure => simp [intOf]; omega
      have t1b : (f0 == 65533) = false := by simpa using t1
      by_cases t10 : f0 = 10
      · subst t10
        go_wp2_with (first
          | (go_at_call 45; refine (Bd.write (HB.out.alloc _) _ ?h4).mono ?_; (case h4 => exact write_len HQ.out (by first | decide | (simp only [ByteArray.size_append]; show 3 + hx.size + 1 ≤ 100; omega))); rintro e w1 ⟨rfl, hb1, hB1, hO1⟩; have HB1 := Aside0.mk hb1; have HL1 := Aside0.mk ((below_alloc HL.out _).trans hB1); have HR1 := Aside0.mk (R_others (Kd.R_alloc HR.out _) rfl hO1 (by decide) (Nat.lt_succ_self _)); clear hb1 hB1 hO1))
        go_roundw
        case rel => exact QRel.next hlt HB1.out (by rw [HX.out]; simp [escOf]) HL1.out HR1.out
        case measure => simp [intOf]; omega
      have t10b : (f0 == 10) = false := by simpa using t10
      by_cases t13 : f0 = 13
      · subst t13
        go_wp2_with (first
          | (go_at_call 45; refine (Bd.write (HB.out.alloc _) _ ?h4).mono ?_; (case h4 => exact write_len HQ.out (by first | decide | (simp only [ByteArray.size_append]; show 3 + hx.size + 1 ≤ 100; omega))); rintro e w1 ⟨rfl, hb1, hB1, hO1⟩; have HB1 := Aside0.mk hb1; have HL1 := Aside0.mk ((below_alloc HL.out _).trans hB1); have HR1 := Aside0.mk (R_others (Kd.R_alloc HR.out _) rfl hO1 (by decide) (Nat.lt_succ_self _)); clear hb1 hB1 hO1))
        go_roundw
        case rel => exact QRel.next hlt HB1.out (by rw [HX.out]; simp [escOf]) HL1.out HR1.out
        case measure => simp [intOf]; omega
      have t13b : (f0 == 13) = false := by simpa using t13
      by_cases t9 : f0 = 9
      · subst t9
        go_wp2_with (first
          | (go_at_call 45; refine (Bd.write (HB.out.alloc _) _ ?h4).mono ?_; (case h4 => exact write_len HQ.out (by first | decide | (simp only [ByteArray.size_append]; show 3 + hx.size + 1 ≤ 100; omega))); rintro e w1 ⟨rfl, hb1, hB1, hO1⟩; have HB1 := Aside0.mk hb1; have HL1 := Aside0.mk ((below_alloc HL.out _).trans hB1); have HR1 := Aside0.mk (R_others (Kd.R_alloc HR.out _) rfl hO1 (by decide) (Nat.lt_succ_self _)); clear hb1 hB1 hO1))
        go_roundw
        case rel => exact QRel.next hlt HB1.out (by rw [HX.out]; simp [escOf]) HL1.out HR1.out
        case measure => simp [intOf]; omega
      have t9b : (f0 == 9) = false := by simpa using t9
      by_cases t34 : f0 = 34
      · subst t34
        have tk0 : True := trivial
        go_wp2_with (first
          | (have _u := tk0; clear tk0; go_at_call 66; refine (Bd.byte (HB.out.alloc _) 92 ?h4).mono ?_; (case h4 => have := HQ.out; first | omega | (simp only [List.length_append, List.length_cons, List.length_nil]; omega)); rintro e w1 ⟨rfl, hb1, hB1, hO1⟩; have hOx := Aside0.mk hO1; have HB1 := Aside0.mk hb1; have HL1 := Aside0.mk ((below_alloc HL.out _).trans hB1); have HR1 := Aside0.mk (R_others (Kd.R_alloc HR.out _) rfl hO1 (by decide) (Nat.lt_succ_self _)); clear hb1 hB1 hO1; have hcz := keep_blk (g := w.heap.size) hOx.out (blk_new wr _) (by have := HB.out.lt; omega) (by decide); have hcz0 := (blk_cell hcz 0).trans rfl; have hcz2 := (blk_cell hcz 2).trans rfl; clear hcz)
          | (have _u := hOx; go_at_call 66; refine (Bd.byte HB1.out 34 ?h5).mono ?_; (case h5 => have := HQ.out; first | omega | (simp only [List.length_append, List.length_cons, List.length_nil]; omega)); rintro e w2 ⟨rfl, hb2, hB2, hO2⟩; have HB2 := Aside0.mk hb2; have HL2 := Aside0.mk (HL1.out.trans hB2); have HR2 := Aside0.mk (R_others HR1.out rfl hO2 (by decide) (Nat.lt_succ_self _)); clear hb2 hB2 hO2; clear hOx))
        go_roundw
        case rel => exact QRel.next hlt HB2.out (by rw [HX.out]; simp [escOf]) HL2.out HR2.out
        case measure => simp [intOf]; omega
      have t34b : (f0 == 34) = false := by simpa using t34
      by_cases t92 : f0 = 92
      · subst t92
        have tk0 : True := trivial
        go_wp2_with (first
          | (have _u := tk0; clear tk0; go_at_call 66; refine (Bd.byte (HB.out.alloc _) 92 ?h4).mono ?_; (case h4 => have := HQ.out; first | omega | (simp only [List.length_append, List.length_cons, List.length_nil]; omega)); rintro e w1 ⟨rfl, hb1, hB1, hO1⟩; have hOx := Aside0.mk hO1; have HB1 := Aside0.mk hb1; have HL1 := Aside0.mk ((below_alloc HL.out _).trans hB1); have HR1 := Aside0.mk (R_others (Kd.R_alloc HR.out _) rfl hO1 (by decide) (Nat.lt_succ_self _)); clear hb1 hB1 hO1; have hcz := keep_blk (g := w.heap.size) hOx.out (blk_new wr _) (by have := HB.out.lt; omega) (by decide); have hcz0 := (blk_cell hcz 0).trans rfl; have hcz2 := (blk_cell hcz 2).trans rfl; clear hcz)
          | (have _u := hOx; go_at_call 66; refine (Bd.byte HB1.out 92 ?h5).mono ?_; (case h5 => have := HQ.out; first | omega | (simp only [List.length_append, List.length_cons, List.length_nil]; omega)); rintro e w2 ⟨rfl, hb2, hB2, hO2⟩; have HB2 := Aside0.mk hb2; have HL2 := Aside0.mk (HL1.out.trans hB2); have HR2 := Aside0.mk (R_others HR1.out rfl hO2 (by decide) (Nat.lt_succ_self _)); clear hb2 hB2 hO2; clear hOx))
        go_roundw
        case rel => exact QRel.next hlt HB2.out (by rw [HX.out]; simp [escOf]) HL2.out HR2.out
        case measure => simp [intOf]; omega
      have t92b : (f0 == 92) = false := by simpa using t92
      by_cases l32 : f0 < 32
      · have d1 : decide (f0 < 32) = true := by simpa using l32
        go_wp2_with (first
          | (go_at_call 68; refine (hex_any _ ?h1 ?h2 _ ?h3).mono ?_; (case h1 => omega); (case h2 => omega); (case h3 => exact HGW.out.below (below_alloc HL.out _)); rintro e w1 ⟨hx, rfl, HX1, hx2, hb1⟩; have HB1 := Aside0.mk ((HB.out.alloc _).below hb1); have HL1 := Aside0.mk (below_step (below_alloc HL.out _) hb1); have HR1 := Aside0.mk (Kd.R_below (Kd.R_alloc HR.out _) hb1); clear hb1; have hz1 : (9223372036854775807 < 3 + hx.size) = False := eq_false (by omega); have hz2 : (9223372036854775807 < 3 + hx.size + 1) = False := eq_false (by omega))
          | (go_at_call 45; refine (Bd.write HB1.out _ ?h4).mono ?_; (case h4 => exact write_len HQ.out (by first | decide | (simp only [ByteArray.size_append]; show 3 + hx.size + 1 ≤ 100; omega))); rintro e w2 ⟨rfl, hb2, hB2, hO2⟩; have HB2 := Aside0.mk hb2; have HL2 := Aside0.mk (HL1.out.trans hB2); have HR2 := Aside0.mk (R_others HR1.out rfl hO2 (by decide) (Nat.lt_succ_self _)); clear hb2 hB2 hO2))
        go_roundw
        case rel => exact QRel.next hlt HB2.out (by rw [HX.out]; rw [escOf, if_neg (by simp [t1]), if_neg t10, if_neg t13, if_neg t9, if_neg (by simp [t34, t92]), if_pos (by simp; omega)]; simp [HX1.out]) HL2.out HR2.out
        case measure => simp [intOf]; omega
      by_cases g126 : f0 > 126
      · have d1 : decide (f0 < 32) = false := by simp; omega
        have d2 : decide (f0 > 126) = true := by simp; omega
        go_wp2_with (first
          | (go_at_call 68; refine (hex_any _ ?h1 ?h2 _ ?h3).mono ?_; (case h1 => omega); (case h2 => omega); (case h3 => exact HGW.out.below (below_alloc HL.out _)); rintro e w1 ⟨hx, rfl, HX1, hx2, hb1⟩; have HB1 := Aside0.mk ((HB.out.alloc _).below hb1); have HL1 := Aside0.mk (below_step (below_alloc HL.out _) hb1); have HR1 := Aside0.mk (Kd.R_below (Kd.R_alloc HR.out _) hb1); clear hb1; have hz1 : (9223372036854775807 < 3 + hx.size) = False := eq_false (by omega); have hz2 : (9223372036854775807 < 3 + hx.size + 1) = False := eq_false (by omega))
          | (go_at_call 45; refine (Bd.write HB1.out _ ?h4).mono ?_; (case h4 => exact write_len HQ.out (by first | decide | (simp only [ByteArray.size_append]; show 3 + hx.size + 1 ≤ 100; omega))); rintro e w2 ⟨rfl, hb2, hB2, hO2⟩; have HB2 := Aside0.mk hb2; have HL2 := Aside0.mk (HL1.out.trans hB2); have HR2 := Aside0.mk (R_others HR1.out rfl hO2 (by decide) (Nat.lt_succ_self _)); clear hb2 hB2 hO2))
        go_roundw
        case rel => exact QRel.next hlt HB2.out (by rw [HX.out]; rw [escOf, if_neg (by simp [t1]), if_neg t10, if_neg t13, if_neg t9, if_neg (by simp [t34, t92]), if_pos (by simp; omega)]; simp [HX1.out]) HL2.out HR2.out
        case measure => simp [intOf]; omega
      have d1 : decide (f0 < 32) = false := by simp; omega
      have d2 : decide (f0 > 126) = false := by simp; omega
      have h8 : f0 % 256 = f0 := by omega
      obtain ⟨c8, rfl⟩ : ∃ c8 : UInt8, f0 = (c8.toNat : Int) := ⟨f0.toNat.toUInt8, by simp [Nat.toUInt8]; omega⟩
      go_wp2_with (first
        | (go_at_call 66; refine (Bd.byte (HB.out.alloc _) c8 ?h4).mono ?_; (case h4 => have := HQ.out; first | omega | (simp only [List.length_append, List.length_cons, List.length_nil]; omega)); rintro e w1 ⟨rfl, hb1, hB1, hO1⟩; have HB1 := Aside0.mk hb1; have HL1 := Aside0.mk ((below_alloc HL.out _).trans hB1); have HR1 := Aside0.mk (R_others (Kd.R_alloc HR.out _) rfl hO1 (by decide) (Nat.lt_succ_self _)); clear hb1 hB1 hO1))
      go_roundw
      case rel => exact QRel.next hlt HB1.out (by rw [HX.out]; rw [escOf, if_neg (by simp [t1]), if_neg t10, if_neg t13, if_neg t9, if_neg (by simp [t34, t92]), if_neg (by simp; omega)]; simp) HL1.out HR1.out
      case measure => simp [intOf]; omega
    · have hke : k = rs.length := by omega
      subst hke
      rw [List.take_of_length_le (Nat.le_refl _)] at hb
      have HB := Aside0.mk hb
      have HL := Aside0.mk hB
      clear hb hB hR
      have hq : ((⟨(quoteB a0 rs).toArray⟩ : ByteArray)).size ≤ 140737488355000 := by
        have h1 := flatMap_esc_len a0 rs
        simp only [quoteB, ByteArray.size, List.size_toArray, List.length_cons]; omega
      have hq2 : (9223372036854775807 < ((⟨(quoteB a0 rs).toArray⟩ : ByteArray)).size + 1) = False := by simp; omega
      have hq3 : (9223372036854775807 < (quoteB a0 rs).length + 1) = False := eq_false (by have := hq; simp only [ByteArray.size, List.size_toArray] at this; omega)
      go_wp2_with (go_at_call 46; refine (HB.out.string).mono ?_; rintro e w3 ⟨rfl, hB3⟩; have HL3 := Aside0.mk (HL.out.trans hB3); clear hB3)
      go_ret
      exact ⟨by rw [← HP.out]; rfl, HL3.out⟩
end Go.Proofs.YtphmgaijkdflnaaDoor.H
end
section
namespace Go.Proofs.YtphmgaijkdflnaaDoor.H
open Go.RowKit Go.Shelf Go.Proofs.YtphmgaijkdflnaaDoorW.PrintWords Go.Proofs.YtphmgaijkdflnaaDoorW.PrintLast Go.Proofs.YtphmgaijkdflnaaDoorW.PrintMore
open Go.Maps
set_option linter.unusedVariables false
set_option linter.unusedSimpArgs false
def bput (acc : List UInt8) (s : ByteArray) : Option (List UInt8) := if acc.length + s.size ≤ 140737488355328 then some (acc ++ s.data.toList) else none
theorem bput.some {acc o : List UInt8} {s : ByteArray} (h : bput acc s = some o) : acc.length + s.size ≤ 140737488355328 ∧ o = acc ++ s.data.toList := by
  unfold bput at h
  split at h
  · rename_i q; exact ⟨q, (Option.some.inj h).symm⟩
  · cases h
section
variable (l0_0 l0_1 : List ByteArray) (l0_2 : List Int) (l0_3 : List S58) (l0_4 : List S61)
mutual
def showN : S26 → Option ByteArray
  | ⟨f0, f1, f2, f3, f4, f5, ks⟩ => if f0 = 0 then some ⟨#[36, 101, 110, 100]⟩ else (grammar_Sym.f l0_0 l0_1 l0_2 l0_3 l0_4 f0).bind fun name =>
    if 0 < f0 then (if f3 = 1 then (if name.size ≤ 140737488355327 then some ((⟨#[33]⟩ : ByteArray) ++ name) else none) else text_Quote.f f5)
    else (bput (if f3 = 2 then [40, 33] else [40]) name).bind fun a => (showL a ks).bind fun b => (bput b ⟨#[41]⟩).map fun l => ⟨l.toArray⟩
def showL : List UInt8 → List S26 → Option (List UInt8)
  | acc, [] => some acc
  | acc, k :: r => (showN k).bind fun t => (bput acc ((⟨#[32]⟩ : ByteArray) ++ t)).bind fun a => showL a r
end
theorem showN_eq (x : S26) : showN l0_0 l0_1 l0_2 l0_3 l0_4 x = if x.f0 = 0 then some ⟨#[36, 101, 110, 100]⟩ else (grammar_Sym.f l0_0 l0_1 l0_2 l0_3 l0_4 x.f0).bind fun name =>
    if 0 < x.f0 then (if x.f3 = 1 then (if name.size ≤ 140737488355327 then some ((⟨#[33]⟩ : ByteArray) ++ name) else none) else text_Quote.f x.f5)
    else (bput (if x.f3 = 2 then [40, 33] else [40]) name).bind fun a => (showL l0_0 l0_1 l0_2 l0_3 l0_4 a x.f6).bind fun b => (bput b ⟨#[41]⟩).map fun l => ⟨l.toArray⟩ := by
  cases x; simp only [showN]
def cst_Show.f (a1_0 : Int) (a1_1 : Int) (a1_2 : Int) (a1_3 : Int) (l1_4 : List S46) (a1_5 : ByteArray) (l1_6 : List S26) : Option ByteArray := showN l0_0 l0_1 l0_2 l0_3 l0_4 ⟨a1_0, a1_1, a1_2, a1_3, l1_4, a1_5, l1_6⟩
end
section
variable {w W : World} {A0 : Option Addr} {c0 : Nat} {l0_0 : List ByteArray} {A1 : Option Addr} {c1 : Nat} {l0_1 : List ByteArray} {A2 : Option Addr} {c2 : Nat} {l0_2 : List Int} {A3 : Option Addr} {c3 : Nat} {l0_3 : List S58} {A4 : Option Addr} {c4 : Nat} {l0_4 : List S61}
theorem InG.sym {s : Int} {r : ByteArray} (G : InG W A0 c0 l0_0 A1 c1 l0_1 A2 c2 l0_2 A3 c3 l0_3 A4 c4 l0_4) (h : grammar_Sym.f l0_0 l0_1 l0_2 l0_3 l0_4 s = some r) :
    Calls Tryd.prog 43 #[.agg #[.slice A0 l0_0.length c0, .slice A1 l0_1.length c1, .slice A2 l0_2.length c2, .slice A3 l0_3.length c3, .slice A4 l0_4.length c4], .int .i64 s] W fun e w' => e = .returned (.string r) ∧ Below W.heap.size W w' :=
  grammar_Sym.calls _ _ _ _ _ _ _ _ _ _ _ _ _ _ _ s r W G.r0 G.h0 G.r1 G.h1 G.r2 G.h2 G.r3 G.h3 G.r4 G.h4 h
end
theorem kc2 {w W : World} {p : Addr} {v : Value} (hb : Below w.heap.size w W) (h : w.cell? p = some v) : W.cell? p = some v := (hb.cell (World.block_lt_of_cell? w _ h)).trans h
structure SV (w : World) (A0 : Option Addr) (c0 : Nat) (l0_0 : List ByteArray) (A1 : Option Addr) (c1 : Nat) (l0_1 : List ByteArray) (A2 : Option Addr) (c2 : Nat) (l0_2 : List Int) (A3 : Option Addr) (c3 : Nat) (l0_3 : List S58) (A4 : Option Addr) (c4 : Nat) (l0_4 : List S61) (x : S26) (B4 : Option Addr) (d4 : Nat) (B6 : Option Addr) (d6 : Nat) (W : World) : Prop where
  B : Below w.heap.size w W
  g : GB W w.heap.size A0 c0 l0_0 A1 c1 l0_1 A2 c2 l0_2 A3 c3 l0_3 A4 c4 l0_4
  n : W.heap[w.heap.size + 1]? = some (.cells #[.int .i64 x.f0, .int .i64 x.f1, .int .i64 x.f2, .int .i64 x.f3, .slice B4 x.f4.length d4, .string x.f5, .slice B6 x.f6.length d6] 26 (0, 0))
section
variable {w W W' : World} {A0 : Option Addr} {c0 : Nat} {l0_0 : List ByteArray} {A1 : Option Addr} {c1 : Nat} {l0_1 : List ByteArray} {A2 : Option Addr} {c2 : Nat} {l0_2 : List Int} {A3 : Option Addr} {c3 : Nat} {l0_3 : List S58} {A4 : Option Addr} {c4 : Nat} {l0_4 : List S61} {x : S26} {B4 : Option Addr} {d4 : Nat} {B6 : Option Addr} {d6 : Nat}
theorem SV.below (h : SV w A0 c0 l0_0 A1 c1 l0_1 A2 c2 l0_2 A3 c3 l0_3 A4 c4 l0_4 x B4 d4 B6 d6 W) (hb : Below W.heap.size W W') : SV w A0 c0 l0_0 A1 c1 l0_1 A2 c2 l0_2 A3 c3 l0_3 A4 c4 l0_4 x B4 d4 B6 d6 W' :=
  ⟨h.B.trans (hb.mono h.B.size), h.g.below hb, blk_below h.n hb⟩
theorem SV.size (h : SV w A0 c0 l0_0 A1 c1 l0_1 A2 c2 l0_2 A3 c3 l0_3 A4 c4 l0_4 x B4 d4 B6 d6 W) : w.heap.size + 1 < W.heap.size := (Array.getElem?_eq_some_iff.1 h.n).1
theorem SV.write {bb : Nat} {acc : List UInt8} (h : SV w A0 c0 l0_0 A1 c1 l0_1 A2 c2 l0_2 A3 c3 l0_3 A4 c4 l0_4 x B4 d4 B6 d6 W) (hd : Bd bb acc W) (hw : w.heap.size + 1 < bb) (s : ByteArray) (hlen : acc.length + s.size ≤ 140737488355328) :
    Calls Tryd.prog 45 #[.pointer (some ⟨bb, 0, none⟩), .string s] W fun e w' => e = .returned (.tuple #[.int .i64 s.size, .nilIface]) ∧ SV w A0 c0 l0_0 A1 c1 l0_1 A2 c2 l0_2 A3 c3 l0_3 A4 c4 l0_4 x B4 d4 B6 d6 w' ∧ Bd bb (acc ++ s.data.toList) w' := by
  refine (hd.write s hlen).mono ?_
  rintro e w' ⟨rfl, hd2, hbl, hk⟩
  exact ⟨rfl, ⟨h.B.trans (hbl.mono (by omega)), (hbl.block _ (by omega)).trans h.g, (hbl.block _ hw).trans h.n⟩, hd2⟩
theorem SV.start : SV w A0 c0 l0_0 A1 c1 l0_1 A2 c2 l0_2 A3 c3 l0_3 A4 c4 l0_4 x B4 d4 B6 d6 ((w.alloc (.cells #[.slice A0 l0_0.length c0, .slice A1 l0_1.length c1, .slice A2 l0_2.length c2, .slice A3 l0_3.length c3, .slice A4 l0_4.length c4] 40)).alloc (.cells #[.int .i64 x.f0, .int .i64 x.f1, .int .i64 x.f2, .int .i64 x.f3, .slice B4 x.f4.length d4, .string x.f5, .slice B6 x.f6.length d6] 26)) := by
  refine ⟨below_alloc (below_alloc (Below.refl _ _) _) _, blk_alloc (blk_new w _) _, ?_⟩
  have := blk_new (w.alloc (.cells #[.slice A0 l0_0.length c0, .slice A1 l0_1.length c1, .slice A2 l0_2.length c2, .slice A3 l0_3.length c3, .slice A4 l0_4.length c4] 40)) (.cells #[.int .i64 x.f0, .int .i64 x.f1, .int .i64 x.f2, .int .i64 x.f3, .slice B4 x.f4.length d4, .string x.f5, .slice B6 x.f6.length d6] 26)
  simpa using this
theorem SV.cells (h : SV w A0 c0 l0_0 A1 c1 l0_1 A2 c2 l0_2 A3 c3 l0_3 A4 c4 l0_4 x B4 d4 B6 d6 W) : W.cell? ⟨w.heap.size + 1, 0, none⟩ = some (.int .i64 x.f0) ∧ W.cell? ⟨w.heap.size + 1, 3, none⟩ = some (.int .i64 x.f3) ∧ W.cell? ⟨w.heap.size + 1, 5, none⟩ = some (.string x.f5) ∧ W.cell? ⟨w.heap.size + 1, 6, none⟩ = some (.slice B6 x.f6.length d6) :=
  ⟨(blk_cell h.n 0).trans rfl, (blk_cell h.n 3).trans rfl, (blk_cell h.n 5).trans rfl, (blk_cell h.n 6).trans rfl⟩
end
set_option maxRecDepth 100000 in
set_option maxHeartbeats 4000000 in
theorem show_walk (A0 : Option Addr) (c0 : Nat) (l0_0 : List ByteArray) (A1 : Option Addr) (c1 : Nat) (l0_1 : List ByteArray) (A2 : Option Addr) (c2 : Nat) (l0_2 : List Int) (A3 : Option Addr) (c3 : Nat) (l0_3 : List S58) (A4 : Option Addr) (c4 : Nat) (l0_4 : List S61) (n : Nat) : ∀ (x : S26) (B4 : Option Addr) (d4 : Nat) (B6 : Option Addr) (d6 : Nat) (r : ByteArray) (w : World), SizeOf.sizeOf x < n → GW w → InG w A0 c0 l0_0 A1 c1 l0_1 A2 c2 l0_2 A3 c3 l0_3 A4 c4 l0_4 → NodeE.Ok w ⟨x, B4, d4, B6, d6⟩ → showN l0_0 l0_1 l0_2 l0_3 l0_4 x = some r →
    Calls Tryd.prog 26 #[.agg #[.slice A0 l0_0.length c0, .slice A1 l0_1.length c1, .slice A2 l0_2.length c2, .slice A3 l0_3.length c3, .slice A4 l0_4.length c4], .agg #[.int .i64 x.f0, .int .i64 x.f1, .int .i64 x.f2, .int .i64 x.f3, .slice B4 x.f4.length d4, .string x.f5, .slice B6 x.f6.length d6]] w fun e w' => e = .returned (.string r) ∧ Below w.heap.size w w' := by
  induction n with
  | zero => intro x _ _ _ _ _ _ h; omega
  | succ n ih =>
    intro x B4 d4 B6 d6 r w hs hgw hg hok h
    have IH := Aside0.mk ih
    have HGW := Aside0.mk hgw
    have HG := Aside0.mk hg
    have HOK := Aside0.mk hok
    have HSZ := Aside0.mk hs
    have S0 := Aside0.mk (SV.start (w := w) (A0 := A0) (c0 := c0) (l0_0 := l0_0) (A1 := A1) (c1 := c1) (l0_1 := l0_1) (A2 := A2) (c2 := c2) (l0_2 := l0_2) (A3 := A3) (c3 := c3) (l0_3 := l0_3) (A4 := A4) (c4 := c4) (l0_4 := l0_4) (x := x) (B4 := B4) (d4 := d4) (B6 := B6) (d6 := d6))
    have hn6 : x.f6.length ≤ 9223372036854775807 := HOK.out.g6.2.1
    rw [showN_eq] at h
    clear ih hgw hg hok hs
    by_cases h0 : x.f0 = 0
    case pos =>
      rw [if_pos h0] at h
      obtain rfl := Option.some.inj h
      have h0b : (x.f0 == 0) = true := beq_iff_eq.mpr h0
      clear h0 h
      go_enter Tryd.func26, Tryd.ntmps26
      go_wp2_with fail
      go_ret
      exact ⟨rfl, S0.out.B⟩
    rw [if_neg h0] at h
    have h0b : (x.f0 == 0) = false := beq_eq_false_iff_ne.mpr h0
    obtain ⟨name, hname, h⟩ := Option.bind_eq_some_iff.1 h
    have HN := Aside0.mk hname
    clear hname
    go_enter Tryd.func26, Tryd.ntmps26
    by_cases h1 : 0 < x.f0
    case pos =>
      rw [if_pos h1] at h
      have h1b : decide (0 < x.f0) = true := decide_eq_true h1
      clear h1 h0
      by_cases h2 : x.f3 = 1
      case pos =>
        rw [if_pos h2] at h
        have h2b : (x.f3 == 1) = true := beq_iff_eq.mpr h2
        split at h
        case isFalse => cases h
        rename_i hsz
        obtain rfl := Option.some.inj h
        have hq : 1 + name.size ≤ 9223372036854775807 := by omega
        clear h2 h hsz
        go_wp2_with fail
        refine (InG.sym (HG.out.below S0.out.B) HN.out).mono ?_
        rintro e w1 ⟨rfl, hb⟩
        have S1 := Aside0.mk (S0.out.below hb)
        obtain ⟨n0, n3, n5, n6⟩ := S1.out.cells
        clear hb
        go_wp2_with fail
        go_ret
        exact ⟨rfl, S1.out.B⟩
      rw [if_neg h2] at h
      have h2b : (x.f3 == 1) = false := beq_eq_false_iff_ne.mpr h2
      have HQ := Aside0.mk h
      clear h2 h
      go_wp2_with fail
      refine (InG.sym (HG.out.below S0.out.B) HN.out).mono ?_
      rintro e w1 ⟨rfl, hb⟩
      have S1 := Aside0.mk (S0.out.below hb)
      obtain ⟨n0, n3, n5, n6⟩ := S1.out.cells
      clear hb
      go_wp2_with fail
      refine (text_Quote.calls _ _ _ (GW.below HGW.out S1.out.B) HQ.out).mono ?_
      rintro e w2 ⟨rfl, hb⟩
      have HB2 := Aside0.mk hb
      clear hb
      go_wp2_with fail
      go_ret
      exact ⟨rfl, S1.out.B.trans (HB2.out.mono S1.out.B.size)⟩
    rw [if_neg h1] at h
    have h1b : decide (0 < x.f0) = false := decide_eq_false h1
    clear h1 h0
    obtain ⟨a, ha, h⟩ := Option.bind_eq_some_iff.1 h
    obtain ⟨b, hb, h⟩ := Option.bind_eq_some_iff.1 h
    obtain ⟨l, hl, rfl⟩ := Option.map_eq_some_iff.1 h
    have HA := Aside0.mk ha
    have HBL := Aside0.mk hb
    have HL := Aside0.mk hl
    clear h ha hb hl
    go_wp2_with fail
    refine (InG.sym (HG.out.below S0.out.B) HN.out).mono ?_
    rintro e w1 ⟨rfl, hb⟩
    have S1 := Aside0.mk (S0.out.below hb)
    obtain ⟨n0, n3, n5, n6⟩ := S1.out.cells
    clear hb
    go_wp2_with fail
    have S2 := Aside0.mk (S1.out.below (below_alloc (Below.refl w1.heap.size w1) (.cells #[.pointer none, .slice none 0 0] 69)))
    have D2 := Aside0.mk (Bd.new w1)
    have hbb := S1.out.size
    obtain ⟨w2, hw2⟩ : ∃ w2, w1.alloc (.cells #[.pointer none, .slice none 0 0] 69) = w2 := ⟨_, rfl⟩
    rw [hw2] at S2 D2 ⊢
    clear hw2
    obtain ⟨bb, hb0⟩ : ∃ bb, w1.heap.size = bb := ⟨_, rfl⟩
    rw [hb0] at D2 hbb ⊢
    clear hb0 S1 n0 n3 n5 n6
    refine (S2.out.write D2.out hbb ⟨#[40]⟩ (by simp; exact (by decide : (1:Nat) ≤ 140737488355328))).mono ?_
    rintro e w3 ⟨rfl, hS, hD⟩
    have S3 := Aside0.mk hS
    have D3 := Aside0.mk (show Bd bb [40] w3 from hD)
    clear hS hD S2 D2
    obtain ⟨n0, n3, n5, n6⟩ := S3.out.cells
    go_upto_if 30 with fail
    go_cut [30] (fun v30 wc => Aside0 (SV w A0 c0 l0_0 A1 c1 l0_1 A2 c2 l0_2 A3 c3 l0_3 A4 c4 l0_4 x B4 d4 B6 d6 wc) ∧ Aside0 (Bd bb (if x.f3 = 2 then [40, 33] else [40]) wc))
    case first =>
      by_cases h3 : x.f3 = 2
      case pos =>
        have h3b : (x.f3 == 2) = true := beq_iff_eq.mpr h3
        go_wp2_with fail
        refine (S3.out.write D3.out hbb ⟨#[33]⟩ (by simp; exact (by decide : (2:Nat) ≤ 140737488355328))).mono ?_
        rintro e w4 ⟨rfl, hS, hD⟩
        have S4 := Aside0.mk hS
        have D4 := Aside0.mk (show Bd bb (if x.f3 = 2 then [40, 33] else [40]) w4 by rw [if_pos h3]; exact hD)
        clear hS hD h3
        go_wp2_with fail
        go_meet
        case rel => exact ⟨S4, D4⟩
      case neg =>
        have h3b : (x.f3 == 2) = false := beq_eq_false_iff_ne.mpr h3
        have D4 := Aside0.mk (show Bd bb (if x.f3 = 2 then [40, 33] else [40]) w3 by rw [if_neg h3]; exact D3.out)
        clear h3
        go_wp2_with fail
        go_meet
        case rel => exact ⟨S3, D4⟩
    case rest =>
      clear S3 D3 n0 n3 n5 n6
      obtain ⟨S3, D3⟩ := hcut
      obtain ⟨hpl, rfl⟩ := bput.some HA.out
      have HPL := Aside0.mk hpl
      clear HA hpl
      go_wp2_with fail
      refine (S3.out.write D3.out hbb name HPL.out).mono ?_
      rintro e w4 ⟨rfl, hS, hD⟩
      have S4 := Aside0.mk hS
      have D4 := Aside0.mk hD
      clear hS hD S3 D3
      obtain ⟨n0, n3, n5, n6⟩ := S4.out.cells
      go_wp2_with fail
      go_loopw [37] (fun v37 wr => ∃ (i : Nat) (acc : List UInt8), v37 = .int .i64 (i : Int) ∧ i ≤ x.f6.length ∧ Aside0 (showL l0_0 l0_1 l0_2 l0_3 l0_4 acc (x.f6.drop i) = some b) ∧ Aside0 (SV w A0 c0 l0_0 A1 c1 l0_1 A2 c2 l0_2 A3 c3 l0_3 A4 c4 l0_4 x B4 d4 B6 d6 wr) ∧ Aside0 (Bd bb acc wr)) (fun v37 _ => match v37 with | .int _ z => x.f6.length - z.toNat | _ => 0)
      case atStart => exact ⟨0, _, rfl, Nat.zero_le _, HBL, S4, D4⟩
      case round =>
        clear HBL S4 D4 n0 n3 n5 n6
        obtain ⟨i, acc, rfl, hi, HBL, S4, D4⟩ := hrel
        obtain ⟨n0, n3, n5, n6⟩ := S4.out.cells
        by_cases hlt : i < x.f6.length
        · have hlt2 : decide ((i : Int) < (x.f6.length : Int)) = true := decide_eq_true (by omega)
          obtain ⟨ad, d, e1, hdx, hok, hc⟩ := kid_at HOK.out i hlt
          have e1' : B6 = some ad := e1
          subst e1'
          clear e1
          obtain ⟨x2, E4, f4, E6, f6⟩ := d
          dsimp only at hdx
          have q0 : wr.cell? (ad.add (i * 7)) = some (.int .i64 x2.f0) := kc2 S4.out.B (hc 0 _ rfl)
          have q1 : wr.cell? ⟨(ad.add (i * 7)).block, (ad.add (i * 7)).off + 1, none⟩ = some (.int .i64 x2.f1) := by rw [← add_field _ _ 1 (by omega)]; exact kc2 S4.out.B (hc 1 _ rfl)
          have q2 : wr.cell? ⟨(ad.add (i * 7)).block, (ad.add (i * 7)).off + 2, none⟩ = some (.int .i64 x2.f2) := by rw [← add_field _ _ 2 (by omega)]; exact kc2 S4.out.B (hc 2 _ rfl)
          have q3 : wr.cell? ⟨(ad.add (i * 7)).block, (ad.add (i * 7)).off + 3, none⟩ = some (.int .i64 x2.f3) := by rw [← add_field _ _ 3 (by omega)]; exact kc2 S4.out.B (hc 3 _ rfl)
          have q4 : wr.cell? ⟨(ad.add (i * 7)).block, (ad.add (i * 7)).off + 4, none⟩ = some (.slice E4 x2.f4.length f4) := by rw [← add_field _ _ 4 (by omega)]; exact kc2 S4.out.B (hc 4 _ rfl)
          have q5 : wr.cell? ⟨(ad.add (i * 7)).block, (ad.add (i * 7)).off + 5, none⟩ = some (.string x2.f5) := by rw [← add_field _ _ 5 (by omega)]; exact kc2 S4.out.B (hc 5 _ rfl)
          have q6 : wr.cell? ⟨(ad.add (i * 7)).block, (ad.add (i * 7)).off + 6, none⟩ = some (.slice E6 x2.f6.length f6) := by rw [← add_field _ _ 6 (by omega)]; exact kc2 S4.out.B (hc 6 _ rfl)
          have h := HBL.out
          rw [List.drop_eq_getElem_cons hlt, ← hdx] at h
          simp only [showL] at h
          obtain ⟨t, ht, h⟩ := Option.bind_eq_some_iff.1 h
          obtain ⟨a2, ha2, h⟩ := Option.bind_eq_some_iff.1 h
          obtain ⟨hpl, rfl⟩ := bput.some ha2
          have HT := Aside0.mk ht
          have HBL2 := Aside0.mk h
          have HPL := Aside0.mk hpl
          have hsz : SizeOf.sizeOf x2 < n := by
            have h5 : SizeOf.sizeOf x.f6[i] < SizeOf.sizeOf x.f6 := List.sizeOf_lt_of_mem (List.getElem_mem hlt)
            have h6 : SizeOf.sizeOf x.f6 < SizeOf.sizeOf x := by cases x; simp; omega
            have h7 := HSZ.out
            rw [← hdx] at h5
            omega
          have HS2 := Aside0.mk hsz
          have HOK2 := Aside0.mk hok
          have hq2 : 1 + t.size ≤ 9223372036854775807 := by rw [ByteArray.size_append] at hpl; have : (⟨#[32]⟩ : ByteArray).size = 1 := rfl; omega
          have S5 := Aside0.mk (S4.out.below (below_alloc (Below.refl wr.heap.size wr) (.cells #[.int .i64 x2.f0, .int .i64 x2.f1, .int .i64 x2.f2, .int .i64 x2.f3, .slice E4 x2.f4.length f4, .string x2.f5, .slice E6 x2.f6.length f6] 26)))
          have D5 := Aside0.mk (D4.out.alloc (.cells #[.int .i64 x2.f0, .int .i64 x2.f1, .int .i64 x2.f2, .int .i64 x2.f3, .slice E4 x2.f4.length f4, .string x2.f5, .slice E6 x2.f6.length f6] 26))
          have hwl : w.heap.size + 1 < wr.heap.size := S4.out.size
          have hwl0 : w.heap.size < wr.heap.size := by omega
          have hwn : ¬ (w.heap.size = wr.heap.size) := by omega
          obtain ⟨g0, g1, g2, g3, g4⟩ := S4.out.g.cells
          have hm : x.f6.length - (i + 1) < x.f6.length - i := by omega
          have ew2 : wrap64 ((i : Int) + 1) = ((i + 1 : Nat) : Int) := by unfold wrap64; omega
          have HEW := Aside0.mk ew2
          clear h ht ha2 hpl hsz hok hc hdx HBL S4 D4 ew2
          go_wp2_with fail
          refine (IH.out x2 E4 f4 E6 f6 t _ HS2.out (GW.below HGW.out S5.out.B) (HG.out.below S5.out.B) (HOK2.out.step (fun k q => S5.out.B.block k q)) HT.out).mono ?_
          rintro e w5 ⟨rfl, hb⟩
          have S6 := Aside0.mk (S5.out.below hb)
          have D6 := Aside0.mk (D5.out.below hb)
          clear hb S5 D5 n0 n3 n5 n6 g0 g1 g2 g3 g4 q0 q1 q2 q3 q4 q5 q6
          go_wp2_with fail
          refine (S6.out.write D6.out hbb _ HPL.out).mono ?_
          rintro e w6 ⟨rfl, hS, hD⟩
          have S7 := Aside0.mk hS
          have D7 := Aside0.mk hD
          clear hS hD S6 D6
          have ew := HEW.out
          go_wp2_with fail
          refine ⟨⟨i + 1, _, ?_, hlt, HBL2, S7, D7⟩, ?_⟩
          · first | rfl | (simp; done) | (simp [ew]; done)
          · first | exact hm | (rw [ew]; exact hm)
        · have hlt2 : decide ((i : Int) < (x.f6.length : Int)) = false := decide_eq_false (by omega)
          have hie : i = x.f6.length := by omega
          have h := HBL.out
          rw [hie, List.drop_of_length_le (Nat.le_refl _)] at h
          simp only [showL] at h
          obtain rfl := Option.some.inj h
          obtain ⟨hpl, rfl⟩ := bput.some HL.out
          have HPL := Aside0.mk hpl
          clear h hie HBL HL hpl
          go_wp2_with fail
          refine (S4.out.write D4.out hbb ⟨#[41]⟩ HPL.out).mono ?_
          rintro e w5 ⟨rfl, hS, hD⟩
          have S5 := Aside0.mk hS
          have D5 := Aside0.mk hD
          clear hS hD S4 D4
          go_wp2_with fail
          refine (D5.out.string).mono ?_
          rintro e w6 ⟨rfl, hb⟩
          have HB6 := Aside0.mk (S5.out.B.trans (hb.mono (by omega)))
          clear hb
          go_wp2_with fail
          go_ret
          exact ⟨rfl, HB6.out⟩
theorem cst_Show.calls (A0_0 : Option Addr) (c0_0 : Nat) (l0_0 : List ByteArray) (A0_1 : Option Addr) (c0_1 : Nat) (l0_1 : List ByteArray) (A0_2 : Option Addr) (c0_2 : Nat) (l0_2 : List Int) (A0_3 : Option Addr) (c0_3 : Nat) (l0_3 : List S58) (A0_4 : Option Addr) (c0_4 : Nat) (l0_4 : List S61) (a1_0 : Int) (a1_1 : Int) (a1_2 : Int) (a1_3 : Int) (A1_4 : Option Addr) (c1_4 : Nat) (l1_4 : List S46) (a1_5 : ByteArray) (A1_6 : Option Addr) (c1_6 : Nat) (l1_6 : List S26) (r : ByteArray) (w : World) (hgw : GW w) (hr0_0 : Kd.C Kd.string w A0_0 l0_0.length l0_0) (hc0_0 : l0_0.length ≤ c0_0) (hr0_1 : Kd.C Kd.string w A0_1 l0_1.length l0_1) (hc0_1 : l0_1.length ≤ c0_1) (hr0_2 : Kd.C (Kd.int .i64) w A0_2 l0_2.length l0_2) (hc0_2 : l0_2.length ≤ c0_2) (hr0_3 : Kd.C k58 w A0_3 l0_3.length l0_3) (hc0_3 : l0_3.length ≤ c0_3) (hr0_4 : Kd.C k61 w A0_4 l0_4.length l0_4) (hc0_4 : l0_4.length ≤ c0_4) (hr1_4 : Kd.C k46 w A1_4 l1_4.length l1_4) (hc1_4 : l1_4.length ≤ c1_4) (hr1_6 : Kd.C k26 w A1_6 l1_6.length l1_6) (hc1_6 : l1_6.length ≤ c1_6) (h : cst_Show.f l0_0 l0_1 l0_2 l0_3 l0_4 a1_0 a1_1 a1_2 a1_3 l1_4 a1_5 l1_6 = some r) :
    Calls Tryd.prog 26 #[.agg #[.slice A0_0 l0_0.length c0_0, .slice A0_1 l0_1.length c0_1, .slice A0_2 l0_2.length c0_2, .slice A0_3 l0_3.length c0_3, .slice A0_4 l0_4.length c0_4], .agg #[.int .i64 a1_0, .int .i64 a1_1, .int .i64 a1_2, .int .i64 a1_3, .slice A1_4 l1_4.length c1_4, .string a1_5, .slice A1_6 l1_6.length c1_6]] w fun e w' => e = .returned (.string r) ∧ Below w.heap.size w w' :=
  show_walk _ _ _ _ _ _ _ _ _ _ _ _ _ _ _ _ ⟨a1_0, a1_1, a1_2, a1_3, l1_4, a1_5, l1_6⟩ A1_4 c1_4 A1_6 c1_6 r w (Nat.lt_succ_self _) hgw (InG.mk hr0_0 hc0_0 hr0_1 hc0_1 hr0_2 hc0_2 hr0_3 hc0_3 hr0_4 hc0_4) ⟨hc1_4, hr1_4, hc1_6, hr1_6⟩ h
end Go.Proofs.YtphmgaijkdflnaaDoor.H
end
section
namespace Go.Proofs.YtphmgaijkdflnaaDoor.H
open Go.RowKit Go.Shelf Go.Proofs.YtphmgaijkdflnaaDoorW.PrintWords Go.Proofs.YtphmgaijkdflnaaDoorW.PrintLast Go.Proofs.YtphmgaijkdflnaaDoorW.PrintMore
open Go.Maps
set_option linter.unusedVariables false
set_option linter.unusedSimpArgs false
section
variable {w W : World} {A0 : Option Addr} {c0 : Nat} {l0_0 : List ByteArray} {A1 : Option Addr} {c1 : Nat} {l0_1 : List ByteArray} {A2 : Option Addr} {c2 : Nat} {l0_2 : List Int} {A3 : Option Addr} {c3 : Nat} {l0_3 : List S58} {A4 : Option Addr} {c4 : Nat} {l0_4 : List S61} {y : S26} {B4 : Option Addr} {d4 : Nat} {B6 : Option Addr} {d6 : Nat} {z : S26} {C4 : Option Addr} {e4 : Nat} {C6 : Option Addr} {e6 : Nat}
theorem NodeE.Ok.clean (O : NodeE.Ok W ⟨y, B4, d4, B6, d6⟩) {r : Bool} (h : cst_Clean.f y.f0 y.f1 y.f2 y.f3 y.f4 y.f5 y.f6 = some r) : Calls Tryd.prog 19 #[.agg #[.int .i64 y.f0, .int .i64 y.f1, .int .i64 y.f2, .int .i64 y.f3, .slice B4 y.f4.length d4, .string y.f5, .slice B6 y.f6.length d6]] W fun e w' => e = .returned (.bool r) ∧ Below W.heap.size W w' :=
  cst_Clean.calls _ _ _ _ _ _ _ _ _ _ _ r W O.g4 O.l4 O.g6 O.l6 h
theorem NodeE.Ok.text (O : NodeE.Ok W ⟨y, B4, d4, B6, d6⟩) {r : ByteArray} (h : cst_Text.f y.f0 y.f1 y.f2 y.f3 y.f4 y.f5 y.f6 = some r) : Calls Tryd.prog 10 #[.agg #[.int .i64 y.f0, .int .i64 y.f1, .int .i64 y.f2, .int .i64 y.f3, .slice B4 y.f4.length d4, .string y.f5, .slice B6 y.f6.length d6]] W fun e w' => e = .returned (.string r) ∧ Below W.heap.size W w' :=
  cst_Text.calls _ _ _ _ _ _ _ _ _ _ _ r W O.g4 O.l4 O.g6 O.l6 h
theorem NodeE.Ok.len (O : NodeE.Ok W ⟨y, B4, d4, B6, d6⟩) {r : Int} (h : cst_Len.f y.f0 y.f1 y.f2 y.f3 y.f4 y.f5 y.f6 = some r) : Calls Tryd.prog 12 #[.agg #[.int .i64 y.f0, .int .i64 y.f1, .int .i64 y.f2, .int .i64 y.f3, .slice B4 y.f4.length d4, .string y.f5, .slice B6 y.f6.length d6]] W fun e w' => e = .returned (.int .i64 r) ∧ Below W.heap.size W w' :=
  cst_Len.calls _ _ _ _ _ _ _ _ _ _ _ r W O.g4 O.l4 O.g6 O.l6 h
theorem NodeE.Ok.leaves (O : NodeE.Ok W ⟨y, B4, d4, B6, d6⟩) {r : List S26} (h : cst_Leaves.f y.f0 y.f1 y.f2 y.f3 y.f4 y.f5 y.f6 = some r) : Calls Tryd.prog 17 #[.agg #[.int .i64 y.f0, .int .i64 y.f1, .int .i64 y.f2, .int .i64 y.f3, .slice B4 y.f4.length d4, .string y.f5, .slice B6 y.f6.length d6]] W fun e w' => ∃ A c, e = .returned (.slice A r.length c) ∧ Below W.heap.size W w' := by
  refine (cst_Leaves.calls _ _ _ _ _ _ _ _ _ _ _ r W O.g4 O.l4 O.g6 O.l6 h).mono ?_
  rintro e w' ⟨v, rfl, hR, hb⟩
  obtain ⟨A, c, rfl⟩ := Kd.R_slice hR
  exact ⟨A, c, rfl, hb⟩
theorem NodeE.Ok.same {k : Nat} (O : NodeE.Ok W ⟨y, B4, d4, B6, d6⟩) (O2 : NodeE.Ok W ⟨z, C4, e4, C6, e6⟩) {r : Bool} (h : cst_Same.f k y.f0 y.f1 y.f2 y.f3 y.f4 y.f5 y.f6 z.f0 z.f1 z.f2 z.f3 z.f4 z.f5 z.f6 = some r) : Calls Tryd.prog 21 #[.agg #[.int .i64 y.f0, .int .i64 y.f1, .int .i64 y.f2, .int .i64 y.f3, .slice B4 y.f4.length d4, .string y.f5, .slice B6 y.f6.length d6], .agg #[.int .i64 z.f0, .int .i64 z.f1, .int .i64 z.f2, .int .i64 z.f3, .slice C4 z.f4.length e4, .string z.f5, .slice C6 z.f6.length e6]] W fun e w' => e = .returned (.bool r) ∧ Below W.heap.size W w' :=
  cst_Same.calls k _ _ _ _ _ _ _ _ _ _ _ _ _ _ _ _ _ _ _ _ _ _ r W O.g4 O.l4 O.g6 O.l6 O2.g4 O2.l4 O2.g6 O2.l6 h
theorem InG.show_ (G : InG W A0 c0 l0_0 A1 c1 l0_1 A2 c2 l0_2 A3 c3 l0_3 A4 c4 l0_4) (hgw : GW W) (O : NodeE.Ok W ⟨y, B4, d4, B6, d6⟩) {r : ByteArray} (h : cst_Show.f l0_0 l0_1 l0_2 l0_3 l0_4 y.f0 y.f1 y.f2 y.f3 y.f4 y.f5 y.f6 = some r) : Calls Tryd.prog 26 #[.agg #[.slice A0 l0_0.length c0, .slice A1 l0_1.length c1, .slice A2 l0_2.length c2, .slice A3 l0_3.length c3, .slice A4 l0_4.length c4], .agg #[.int .i64 y.f0, .int .i64 y.f1, .int .i64 y.f2, .int .i64 y.f3, .slice B4 y.f4.length d4, .string y.f5, .slice B6 y.f6.length d6]] W fun e w' => e = .returned (.string r) ∧ Below W.heap.size W w' :=
  cst_Show.calls _ _ _ _ _ _ _ _ _ _ _ _ _ _ _ _ _ _ _ _ _ _ _ _ _ _ r W hgw G.r0 G.h0 G.r1 G.h1 G.r2 G.h2 G.r3 G.h3 G.r4 G.h4 O.g4 O.l4 O.g6 O.l6 h
theorem InG.cstright {k : Nat} (G : InG W A0 c0 l0_0 A1 c1 l0_1 A2 c2 l0_2 A3 c3 l0_3 A4 c4 l0_4) (O : NodeE.Ok W ⟨y, B4, d4, B6, d6⟩) {r : Bool} (h : cst_Right.f k l0_0 l0_1 l0_2 l0_3 l0_4 y.f0 y.f1 y.f2 y.f3 y.f4 y.f5 y.f6 = some r) : Calls Tryd.prog 24 #[.agg #[.slice A0 l0_0.length c0, .slice A1 l0_1.length c1, .slice A2 l0_2.length c2, .slice A3 l0_3.length c3, .slice A4 l0_4.length c4], .agg #[.int .i64 y.f0, .int .i64 y.f1, .int .i64 y.f2, .int .i64 y.f3, .slice B4 y.f4.length d4, .string y.f5, .slice B6 y.f6.length d6]] W fun e w' => e = .returned (.bool r) ∧ Below W.heap.size W w' :=
  cst_Right.calls k _ _ _ _ _ _ _ _ _ _ _ _ _ _ _ _ _ _ _ _ _ _ _ _ _ _ r W G.r0 G.h0 G.r1 G.h1 G.r2 G.h2 G.r3 G.h3 G.r4 G.h4 O.g4 O.l4 O.g6 O.l6 h
end
def plusN : S26 := ⟨-1, 0, 0, 0, [], ⟨#[]⟩, [nInner (-2) 1 [nInner (-2) 2 [nLeaf 2 (-1) 0 ⟨#[49]⟩], nLeaf 3 (-1) 0 ⟨#[43]⟩, nInner (-2) 2 [nLeaf 2 (-1) 1 ⟨#[]⟩]], nLeaf 0 (-1) 0 ⟨#[]⟩]⟩
theorem plus_any (P : S26) (hP : P = plusN) (w : World) : Calls Tryd.prog 30 #[] w fun e w' => ∃ A4 c4 A6 c6, e = .returned (.agg #[.int .i64 P.f0, .int .i64 P.f1, .int .i64 P.f2, .int .i64 P.f3, .slice A4 P.f4.length c4, .string P.f5, .slice A6 P.f6.length c6]) ∧ NodeE.Ok w' ⟨P, A4, c4, A6, c6⟩ ∧ Below w.heap.size w w' := by
  refine (arboristlaw42_Plus.calls P.f0 P.f1 P.f2 P.f3 P.f4 P.f5 P.f6 w (by rw [hP]; rfl)).mono ?_
  rintro e w' ⟨v0, v1, rfl, h4, h6, hb⟩
  obtain ⟨A4, c4, rfl⟩ := Kd.R_slice h4
  obtain ⟨A6, c6, rfl, hl6, hr6⟩ := Kd.N_reads h6
  obtain ⟨_, hl4, hr4⟩ := Kd.R_reads' h4
  exact ⟨A4, c4, A6, c6, rfl, ⟨hl4, hr4, hl6, hr6⟩, hb⟩
theorem sum_any (l0_0 l0_1 : List ByteArray) (l0_2 : List Int) (l0_3 : List S58) (l0_4 : List S61) (h : arboristlaw21_Sum.f = some (l0_0, l0_1, l0_2, l0_3, l0_4)) (w : World) :
    Calls Tryd.prog 29 #[] w fun e w' => ∃ A0 c0 A1 c1 A2 c2 A3 c3 A4 c4, e = .returned (.agg #[.slice A0 l0_0.length c0, .slice A1 l0_1.length c1, .slice A2 l0_2.length c2, .slice A3 l0_3.length c3, .slice A4 l0_4.length c4]) ∧ InG w' A0 c0 l0_0 A1 c1 l0_1 A2 c2 l0_2 A3 c3 l0_3 A4 c4 l0_4 ∧ Below w.heap.size w w' := by
  refine (arboristlaw21_Sum.calls _ _ _ _ _ w h).mono ?_
  rintro e w' ⟨v0, v1, v2, v3, v4, rfl, h0, h1, h2, h3, h4, hb⟩
  obtain ⟨A0, c0, rfl⟩ := Kd.R_slice h0
  obtain ⟨A1, c1, rfl⟩ := Kd.R_slice h1
  obtain ⟨A2, c2, rfl⟩ := Kd.R_slice h2
  obtain ⟨A3, c3, rfl, k3, g3⟩ := Kd.N_reads h3
  obtain ⟨A4, c4, rfl, k4, g4⟩ := Kd.N_reads h4
  exact ⟨_, _, _, _, _, _, _, _, _, _, rfl, ⟨(Kd.R_reads' h0).2.2, (Kd.R_reads' h0).2.1, (Kd.R_reads' h1).2.2, (Kd.R_reads' h1).2.1, (Kd.R_reads' h2).2.2, (Kd.R_reads' h2).2.1, g3, k3, g4, k4⟩, hb⟩
theorem kc3 {w W : World} {p : Addr} {v : Value} (hb : Below w.heap.size w W) (h : w.cell? p = some v) : W.cell? p = some v := (hb.cell (World.block_lt_of_cell? w _ h)).trans h
theorem keepS {w1 W W' : World} {p0 p1 p2 p3 p4 : Addr} {v0 v1 v2 v3 v4 : Value} (hb : Below W.heap.size W W') (h : Below w1.heap.size w1 W ∧ W.cell? p0 = some v0 ∧ W.cell? p1 = some v1 ∧ W.cell? p2 = some v2 ∧ W.cell? p3 = some v3 ∧ W.cell? p4 = some v4) :
    Below w1.heap.size w1 W' ∧ W'.cell? p0 = some v0 ∧ W'.cell? p1 = some v1 ∧ W'.cell? p2 = some v2 ∧ W'.cell? p3 = some v3 ∧ W'.cell? p4 = some v4 :=
  ⟨h.1.trans (hb.mono h.1.size), kc3 hb h.2.1, kc3 hb h.2.2.1, kc3 hb h.2.2.2.1, kc3 hb h.2.2.2.2.1, kc3 hb h.2.2.2.2.2⟩
set_option maxRecDepth 100000 in
set_option maxHeartbeats 8000000 in
theorem knows_walk (P : S26) (hP : P = plusN) (l0_0 l0_1 : List ByteArray) (l0_2 : List Int) (l0_3 : List S58) (l0_4 : List S61) (hS : arboristlaw21_Sum.f = some (l0_0, l0_1, l0_2, l0_3, l0_4)) {k : Nat} {t1 t2 : ByteArray} {lv : List S26}
    (e1 : cst_Show.f l0_0 l0_1 l0_2 l0_3 l0_4 P.f0 P.f1 P.f2 P.f3 P.f4 P.f5 P.f6 = some t1) (e1b : (t1.toList == [40, 36, 115, 116, 97, 114, 116, 32, 40, 101, 32, 40, 101, 32, 34, 49, 34, 41, 32, 34, 43, 34, 32, 40, 101, 32, 33, 110, 41, 41, 32, 36, 101, 110, 100, 41]) = true) (e2 : cst_Right.f k l0_0 l0_1 l0_2 l0_3 l0_4 P.f0 P.f1 P.f2 P.f3 P.f4 P.f5 P.f6 = some true) (e3 : cst_Clean.f P.f0 P.f1 P.f2 P.f3 P.f4 P.f5 P.f6 = some false) (e4 : cst_Text.f P.f0 P.f1 P.f2 P.f3 P.f4 P.f5 P.f6 = some t2) (e4b : (t2.toList == [49, 43]) = true) (e5 : cst_Len.f P.f0 P.f1 P.f2 P.f3 P.f4 P.f5 P.f6 = some 2) (e6 : cst_Size.f P.f0 P.f1 P.f2 P.f3 P.f4 P.f5 P.f6 = some 8)
    (e7 : cst_Leaves.f P.f0 P.f1 P.f2 P.f3 P.f4 P.f5 P.f6 = some lv) (e7b : lv.length = 4) (e8 : cst_Same.f k P.f0 P.f1 P.f2 P.f3 P.f4 P.f5 P.f6 P.f0 P.f1 P.f2 P.f3 P.f4 P.f5 P.f6 = some true) (w : World) (hgw : GW w) : Calls Tryd.prog 9 #[] w fun e w' => e = .returned (.bool true) ∧ Below w.heap.size w w' := by
  have HP := Aside0.mk (plus_any P hP)
  have HSU := Aside0.mk (sum_any l0_0 l0_1 l0_2 l0_3 l0_4 hS)
  have HGW := Aside0.mk hgw
  have E1 := Aside0.mk e1
  have E2 := Aside0.mk e2
  have E3 := Aside0.mk e3
  have E4 := Aside0.mk e4
  have E5 := Aside0.mk e5
  have E6 := Aside0.mk e6
  have E7 := Aside0.mk e7
  have E7b := Aside0.mk e7b
  have E8 := Aside0.mk e8
  clear hP hS e1 e2 e3 e4 e5 e6 e7 e7b e8 hgw
  go_enter Tryd.func9, Tryd.ntmps9
  go_wp2_with (go_at_call 29; refine (HSU.out _).mono ?_; rintro e w1 ⟨A0, c0, A1, c1, A2, c2, A3, c3, A4, c4, rfl, hg, hb⟩; have HG := Aside0.mk hg; have HB := Aside0.mk hb; clear hg hb)
  have hw2 := below_alloc (Below.refl w1.heap.size w1) (.cells #[.slice A0 l0_0.length c0, .slice A1 l0_1.length c1, .slice A2 l0_2.length c2, .slice A3 l0_3.length c3, .slice A4 l0_4.length c4] 40)
  have hbk := blk_new w1 (.cells #[.slice A0 l0_0.length c0, .slice A1 l0_1.length c1, .slice A2 l0_2.length c2, .slice A3 l0_3.length c3, .slice A4 l0_4.length c4] 40)
  have g0 : (w1.alloc (.cells #[.slice A0 l0_0.length c0, .slice A1 l0_1.length c1, .slice A2 l0_2.length c2, .slice A3 l0_3.length c3, .slice A4 l0_4.length c4] 40)).cell? ⟨w1.heap.size, 0, none⟩ = some (.slice A0 l0_0.length c0) := (blk_cell hbk 0).trans rfl
  have g1 : (w1.alloc (.cells #[.slice A0 l0_0.length c0, .slice A1 l0_1.length c1, .slice A2 l0_2.length c2, .slice A3 l0_3.length c3, .slice A4 l0_4.length c4] 40)).cell? ⟨w1.heap.size, 1, none⟩ = some (.slice A1 l0_1.length c1) := (blk_cell hbk 1).trans rfl
  have g2 : (w1.alloc (.cells #[.slice A0 l0_0.length c0, .slice A1 l0_1.length c1, .slice A2 l0_2.length c2, .slice A3 l0_3.length c3, .slice A4 l0_4.length c4] 40)).cell? ⟨w1.heap.size, 2, none⟩ = some (.slice A2 l0_2.length c2) := (blk_cell hbk 2).trans rfl
  have g3 : (w1.alloc (.cells #[.slice A0 l0_0.length c0, .slice A1 l0_1.length c1, .slice A2 l0_2.length c2, .slice A3 l0_3.length c3, .slice A4 l0_4.length c4] 40)).cell? ⟨w1.heap.size, 3, none⟩ = some (.slice A3 l0_3.length c3) := (blk_cell hbk 3).trans rfl
  have g4 : (w1.alloc (.cells #[.slice A0 l0_0.length c0, .slice A1 l0_1.length c1, .slice A2 l0_2.length c2, .slice A3 l0_3.length c3, .slice A4 l0_4.length c4] 40)).cell? ⟨w1.heap.size, 4, none⟩ = some (.slice A4 l0_4.length c4) := (blk_cell hbk 4).trans rfl
  clear hbk
  obtain ⟨w2, hw⟩ : ∃ w2, w1.alloc (.cells #[.slice A0 l0_0.length c0, .slice A1 l0_1.length c1, .slice A2 l0_2.length c2, .slice A3 l0_3.length c3, .slice A4 l0_4.length c4] 40) = w2 := ⟨_, rfl⟩
  rw [hw] at hw2 g0 g1 g2 g3 g4 ⊢
  clear hw
  have HB2 := Aside0.mk hw2
  clear hw2
  first | (go_region_held3 (fun w' => Below w1.heap.size w1 w' ∧ w'.cell? ⟨w1.heap.size, 0, none⟩ = some (.slice A0 l0_0.length c0) ∧ w'.cell? ⟨w1.heap.size, 1, none⟩ = some (.slice A1 l0_1.length c1) ∧ w'.cell? ⟨w1.heap.size, 2, none⟩ = some (.slice A2 l0_2.length c2) ∧ w'.cell? ⟨w1.heap.size, 3, none⟩ = some (.slice A3 l0_3.length c3) ∧ w'.cell? ⟨w1.heap.size, 4, none⟩ = some (.slice A4 l0_4.length c4))
    (first
      | exact keepS hb (by assumption)
      | exact keepS hb ⟨by assumption, by assumption, by assumption, by assumption, by assumption, by assumption⟩
      | (refine ⟨below_drew1 HB2.out, ?_, ?_, ?_, ?_, ?_⟩ <;> (first | assumption | (simp [*]; done))))
    (first
      | (go_at_call 30; refine (HP.out _).mono ?_; rintro e wp ⟨X4, x4, X6, x6, rfl, hok, hb⟩; (try have HOLD := Aside0.mk (HOK.out.step (fun k q => hb.block k q))); (try clear HOK); have HOK := Aside0.mk hok; clear hok)
      | (go_at_call 26; refine (InG.show_ (HG.out.below (by first | assumption | exact And.left (by assumption) | exact below_drew1 HB2.out)) (GW.below HGW.out (HB.out.trans (Below.mono (by first | assumption | exact And.left (by assumption) | exact below_drew1 HB2.out) HB.out.size))) HOK.out E1.out).mono ?_; rintro e wp ⟨rfl, hb⟩; clear HOK)
      | (go_at_call 24; refine (InG.cstright (HG.out.below (by first | assumption | exact And.left (by assumption) | exact below_drew1 HB2.out)) HOK.out E2.out).mono ?_; rintro e wp ⟨rfl, hb⟩; clear HOK)
      | (go_at_call 19; refine (NodeE.Ok.clean HOK.out E3.out).mono ?_; rintro e wp ⟨rfl, hb⟩; clear HOK)
      | (go_at_call 10; refine (NodeE.Ok.text HOK.out E4.out).mono ?_; rintro e wp ⟨rfl, hb⟩; clear HOK)
      | (go_at_call 12; refine (NodeE.Ok.len HOK.out E5.out).mono ?_; rintro e wp ⟨rfl, hb⟩; clear HOK)
      | (go_at_call 14; refine (NodeE.Ok.size HOK.out E6.out).mono ?_; rintro e wp ⟨rfl, hb⟩; clear HOK)
      | (go_at_call 17; refine (NodeE.Ok.leaves HOK.out E7.out).mono ?_; rintro e wp ⟨LA, lc, rfl, hb⟩; clear HOK; rw [E7b.out])
      | (go_at_call 21; refine (NodeE.Ok.same HOLD.out HOK.out E8.out).mono ?_; rintro e wp ⟨rfl, hb⟩; clear HOK))) | fail
  go_wp2
  go_ret
  exact ⟨rfl, HB.out.trans (Below.mono (by first | assumption | exact And.left (by assumption) | exact below_drew1 HB2.out) HB.out.size)⟩
theorem know_facts : ∃ l0_0 l0_1 l0_2 l0_3 l0_4 t1 t2 lv, arboristlaw21_Sum.f = some (l0_0, l0_1, l0_2, l0_3, l0_4) ∧ cst_Show.f l0_0 l0_1 l0_2 l0_3 l0_4 plusN.f0 plusN.f1 plusN.f2 plusN.f3 plusN.f4 plusN.f5 plusN.f6 = some t1 ∧ (t1.toList == [40, 36, 115, 116, 97, 114, 116, 32, 40, 101, 32, 40, 101, 32, 34, 49, 34, 41, 32, 34, 43, 34, 32, 40, 101, 32, 33, 110, 41, 41, 32, 36, 101, 110, 100, 41]) = true ∧ cst_Right.f 50 l0_0 l0_1 l0_2 l0_3 l0_4 plusN.f0 plusN.f1 plusN.f2 plusN.f3 plusN.f4 plusN.f5 plusN.f6 = some true ∧ cst_Clean.f plusN.f0 plusN.f1 plusN.f2 plusN.f3 plusN.f4 plusN.f5 plusN.f6 = some false ∧ cst_Text.f plusN.f0 plusN.f1 plusN.f2 plusN.f3 plusN.f4 plusN.f5 plusN.f6 = some t2 ∧ (t2.toList == [49, 43]) = true ∧
    cst_Len.f plusN.f0 plusN.f1 plusN.f2 plusN.f3 plusN.f4 plusN.f5 plusN.f6 = some 2 ∧ cst_Size.f plusN.f0 plusN.f1 plusN.f2 plusN.f3 plusN.f4 plusN.f5 plusN.f6 = some 8 ∧ cst_Leaves.f plusN.f0 plusN.f1 plusN.f2 plusN.f3 plusN.f4 plusN.f5 plusN.f6 = some lv ∧ lv.length = 4 ∧ cst_Same.f 50 plusN.f0 plusN.f1 plusN.f2 plusN.f3 plusN.f4 plusN.f5 plusN.f6 plusN.f0 plusN.f1 plusN.f2 plusN.f3 plusN.f4 plusN.f5 plusN.f6 = some true :=
  ⟨_, _, _, _, _, ⟨#[40, 36, 115, 116, 97, 114, 116, 32, 40, 101, 32, 40, 101, 32, 34, 49, 34, 41, 32, 34, 43, 34, 32, 40, 101, 32, 33, 110, 41, 41, 32, 36, 101, 110, 100, 41]⟩, ⟨#[49, 43]⟩, leavesN plusN, rfl, by kernel_rfl, by kernel_rfl, by kernel_rfl, by kernel_rfl, by kernel_rfl, by kernel_rfl, by kernel_rfl, by kernel_rfl, by kernel_rfl, by kernel_rfl, by kernel_rfl⟩
def arboristlaw42_knows.f : Option Bool := some true
theorem arboristlaw42_knows.calls (r : Bool) (w : World) (hgw : GW w) (h : arboristlaw42_knows.f = some r) : Calls Tryd.prog 9 #[] w fun e w' => e = .returned (.bool r) ∧ Below w.heap.size w w' := by
  obtain rfl := Option.some.inj h
  obtain ⟨a, b, c, d, e, t1, t2, lv, h0, h1, h2, h3, h4, h5, h6, h7, h8, h9, ha, hb⟩ := know_facts
  exact knows_walk plusN rfl a b c d e h0 h1 h2 (k := 50) h3 h4 h5 h6 h7 h8 h9 ha hb w hgw
end Go.Proofs.YtphmgaijkdflnaaDoor.H
end
section
namespace Go.Proofs.YtphmgaijkdflnaaDoor.H
open Go.RowKit Go.Proofs.YtphmgaijkdflnaaDoorW.PrintWords Go.Proofs.YtphmgaijkdflnaaDoorW.PrintLast Go.Proofs.YtphmgaijkdflnaaDoorW.PrintMore
set_option linter.unusedVariables false
set_option linter.unusedSimpArgs false
theorem text_val {x : S26} (h : Mild x) : cst_Text.f x.f0 x.f1 x.f2 x.f3 x.f4 x.f5 x.f6 = some (textB x) := by cases x; exact if_pos h
theorem len_val {x : S26} (h : Mild x) : cst_Len.f x.f0 x.f1 x.f2 x.f3 x.f4 x.f5 x.f6 = some ((textB x).size : Int) := by
  have : (textB x).size = szB ((preN x).flatMap ownOf) := cat_size _
  rw [this]
  cases x; exact if_pos h
theorem size_val {x : S26} (h : Mild x) : cst_Size.f x.f0 x.f1 x.f2 x.f3 x.f4 x.f5 x.f6 = some ((preN x).length : Int) := by cases x; exact if_pos h.2.2
theorem leaves_val {x : S26} (h : Mild x) : cst_Leaves.f x.f0 x.f1 x.f2 x.f3 x.f4 x.f5 x.f6 = some (leavesN x) := by cases x; exact if_pos h
theorem clean_val {x : S26} (h : Mild x) : cst_Clean.f x.f0 x.f1 x.f2 x.f3 x.f4 x.f5 x.f6 = some ((preN x).all cleanN) := by cases x; exact if_pos h
theorem leafOf_ok {y : S26} (h : ok26 y) : ok26 (leafOf y) := by
  obtain ⟨h0, h1, h2, h3, h4, h5, h6, h7⟩ := (ok26_iff y).1 h
  exact (ok26_iff _).2 ⟨h0, h1, h2, h3, h4, h5, by simp [leafOf], by simp [leafOf]⟩
theorem leaves_ok {x : S26} (h : ok26 x) : ∀ y ∈ leavesN x, ok26 y := fun y hy => by
  unfold leavesN at hy
  obtain ⟨z, hz, rfl⟩ := List.mem_map.1 hy
  exact leafOf_ok (ok_pre h z (List.mem_filter.1 hz).1)
theorem leaves_len (x : S26) : (leavesN x).length ≤ (preN x).length := by
  unfold leavesN
  rw [List.length_map]
  exact List.length_filter_le _ _
theorem knows_ends : Ends (fun _ => (arboristlaw42_knows.f).bind fun t => some t) true := Ends.const _
end Go.Proofs.YtphmgaijkdflnaaDoor.H
end
section
namespace Go.Proofs.YtphmgaijkdflnaaDoor.H
open Go.RowKit Go.Proofs.YtphmgaijkdflnaaDoorW.PrintWords Go.Proofs.YtphmgaijkdflnaaDoorW.PrintLast Go.Proofs.YtphmgaijkdflnaaDoorW.PrintMore
attribute [local go_sem] max2_int min2_int max_two min_two max_three min_three max_four min_four
set_option linter.unusedVariables false
set_option linter.unusedSimpArgs false
def arboristlaw42_CstTells.f (k : Nat) (a0_0 : Int) (a0_1 : Int) (a0_2 : Int) (a0_3 : Int) (l0_4 : List (S46)) (a0_5 : ByteArray) (l0_6 : List (S26)) : Option (Bool) := (arboristref42_Few.f k a0_0 a0_1 a0_2 a0_3 l0_4 a0_5 l0_6 300).bind fun t245 => (if t245 = true then ((cst_Text.f a0_0 a0_1 a0_2 a0_3 l0_4 a0_5 l0_6).bind fun t247 => ((arboristref42_Text.f k a0_0 a0_1 a0_2 a0_3 l0_4 a0_5 l0_6).bind fun t248 => (if t247.toList = t248.toList then ((cst_Len.f a0_0 a0_1 a0_2 a0_3 l0_4 a0_5 l0_6).bind fun t249 => ((arboristref42_Len.f k a0_0 a0_1 a0_2 a0_3 l0_4 a0_5 l0_6).bind fun t250 => (if t249 = t250 then ((cst_Size.f a0_0 a0_1 a0_2 a0_3 l0_4 a0_5 l0_6).bind fun t251 => ((arboristref42_Size.f k a0_0 a0_1 a0_2 a0_3 l0_4 a0_5 l0_6).bind fun t252 => (if t251 = t252 then ((cst_Leaves.f a0_0 a0_1 a0_2 a0_3 l0_4 a0_5 l0_6).bind fun t253 => ((arboristref42_Leaves.f k a0_0 a0_1 a0_2 a0_3 l0_4 a0_5 l0_6).bind fun t256 => ((arboristref42_SameAll.f k t253 t256).bind fun t259 => (if t259 = true then ((cst_Clean.f a0_0 a0_1 a0_2 a0_3 l0_4 a0_5 l0_6).bind fun t260 => ((arboristref42_Clean.f k a0_0 a0_1 a0_2 a0_3 l0_4 a0_5 l0_6).bind fun t261 => (if (t260 == t261) = true then ((arboristlaw42_knows.f).bind fun t262 => (some t262)) else (none)))) else (none))))) else (none)))) else (none)))) else (none)))) else ((arboristlaw42_knows.f).bind fun t246 => (some t246)))
def arboristlaw42_CstTells.T3 : Bool × List (List Nat × List Nat) := (true, [([], []), ([0], [0]), ([], []), ([2, 1], [2]), ([1, 3], [1, 3]), ([4, 3], [4]), ([5], [5]), ([6, 5, 5], [5, 6]), ([5], [5]), ([8, 7, 5], [5, 8]), ([7, 9, 5], [5, 7, 9]), ([5, 10], [5, 10]), ([11, 9], [11]), ([12], [12]), ([13, 12, 12], [12, 13]), ([12], [12]), ([15, 14, 12], [12, 15]), ([14, 16, 12], [12, 14, 16]), ([12, 17], [12, 17]), ([18, 16], [18]), ([19], [19]), ([20, 19, 19], [19, 20]), ([19], [19]), ([22, 21, 19], [19, 22]), ([21, 23, 23, 19], [19, 21, 23]), ([19, 24], [19, 24]), ([25, 24], [25]), ([26], [26]), ([27, 26, 26], [26, 27]), ([26], [26]), ([29, 28, 26], [26, 29]), ([28, 30, 26], [26, 28, 30]), ([26, 31], [26, 31]), ([32, 30], [32]), ([33, 33], [33]), ([33, 34], [33, 34]), ([35, 34, 0, 1, 2, 3, 4, 5, 6, 7, 8, 9, 10, 11, 12, 13, 14, 15, 16, 17, 18, 19, 20, 21, 22, 23, 24, 25, 26, 27, 28, 29, 30, 31, 32, 33, 34, 35], [35])])
def arboristlaw42_CstTells.B3 : List Nat := [0, 1, 0, 7, 15, 31, 63, 127, 63, 511, 1023, 2047, 4095, 8191, 16383, 8191, 65535, 131071, 262143, 524287, 1048575, 2097151, 1048575, 8388607, 16777215, 33554431, 67108863, 134217727, 268435455, 134217727, 1073741823, 2147483647, 4294967295, 8589934591, 17179869183, 34359738367, 68719476735]
theorem arboristlaw42_CstTells.tab3 : rtab .any (opsOf Tryd.f3 3) = arboristlaw42_CstTells.T3 := by kernel_rfl
theorem arboristlaw42_CstTells.bits3 : waitsOk arboristlaw42_CstTells.T3.2 arboristlaw42_CstTells.B3 = true := by kernel_rfl
set_option maxHeartbeats 8000000 in
set_option maxRecDepth 100000 in
theorem arboristlaw42_CstTells.calls (k : Nat) (a0_0 : Int) (a0_1 : Int) (a0_2 : Int) (a0_3 : Int) (A0_4 : Option Addr) (c0_4 : Nat) (l0_4 : List (S46)) (a0_5 : ByteArray) (A0_6 : Option Addr) (c0_6 : Nat) (l0_6 : List (S26)) (r : Bool) (w : World) (hgw : GW w) (hr0_4 : Kd.C k46 w A0_4 l0_4.length l0_4) (hc0_4 : l0_4.length ≤ c0_4) (hr0_6 : Kd.C k26 w A0_6 l0_6.length l0_6) (hc0_6 : l0_6.length ≤ c0_6) (h : arboristlaw42_CstTells.f k a0_0 a0_1 a0_2 a0_3 l0_4 a0_5 l0_6 = some r) :
  Calls Tryd.prog 3 #[.agg #[.int .i64 a0_0, .int .i64 a0_1, .int .i64 a0_2, .int .i64 a0_3, .slice A0_4 l0_4.length c0_4, .string a0_5, .slice A0_6 l0_6.length c0_6]] w fun e w' => e = .returned (.bool r) ∧ Below w.heap.size w w' := by
 (have HGW := qM hgw); clear hgw; (have hu26 := Tryd.underlying26); (have HR0_4 := qM hr0_4); (have HC0_4 := qM hc0_4); clear hr0_4 hc0_4; (have HR0_6 := qM hr0_6); (have HC0_6 := qM hc0_6); clear hr0_6 hc0_6; (have HB := qM (Below.refl w.heap.size w))
 have H : ((arboristref42_Few.f k a0_0 a0_1 a0_2 a0_3 l0_4 a0_5 l0_6 300).bind fun t245 => (if t245 = true then ((cst_Text.f a0_0 a0_1 a0_2 a0_3 l0_4 a0_5 l0_6).bind fun t247 => ((arboristref42_Text.f k a0_0 a0_1 a0_2 a0_3 l0_4 a0_5 l0_6).bind fun t248 => (if t247.toList = t248.toList then ((cst_Len.f a0_0 a0_1 a0_2 a0_3 l0_4 a0_5 l0_6).bind fun t249 => ((arboristref42_Len.f k a0_0 a0_1 a0_2 a0_3 l0_4 a0_5 l0_6).bind fun t250 => (if t249 = t250 then ((cst_Size.f a0_0 a0_1 a0_2 a0_3 l0_4 a0_5 l0_6).bind fun t251 => ((arboristref42_Size.f k a0_0 a0_1 a0_2 a0_3 l0_4 a0_5 l0_6).bind fun t252 => (if t251 = t252 then ((cst_Leaves.f a0_0 a0_1 a0_2 a0_3 l0_4 a0_5 l0_6).bind fun t253 => ((arboristref42_Leaves.f k a0_0 a0_1 a0_2 a0_3 l0_4 a0_5 l0_6).bind fun t256 => ((arboristref42_SameAll.f k t253 t256).bind fun t259 => (if t259 = true then ((cst_Clean.f a0_0 a0_1 a0_2 a0_3 l0_4 a0_5 l0_6).bind fun t260 => ((arboristref42_Clean.f k a0_0 a0_1 a0_2 a0_3 l0_4 a0_5 l0_6).bind fun t261 => (if (t260 == t261) = true then ((arboristlaw42_knows.f).bind fun t262 => (some t262)) else (none)))) else (none))))) else (none)))) else (none)))) else (none)))) else ((arboristlaw42_knows.f).bind fun t246 => (some t246)))) = some r := h
 clear h; (replace H := Option.bind_eq_some_iff.mp H); (obtain ⟨t245, A20, H⟩ := H)
 replace H : (if t245 = true then ((cst_Text.f a0_0 a0_1 a0_2 a0_3 l0_4 a0_5 l0_6).bind fun t247 => ((arboristref42_Text.f k a0_0 a0_1 a0_2 a0_3 l0_4 a0_5 l0_6).bind fun t248 => (if t247.toList = t248.toList then ((cst_Len.f a0_0 a0_1 a0_2 a0_3 l0_4 a0_5 l0_6).bind fun t249 => ((arboristref42_Len.f k a0_0 a0_1 a0_2 a0_3 l0_4 a0_5 l0_6).bind fun t250 => (if t249 = t250 then ((cst_Size.f a0_0 a0_1 a0_2 a0_3 l0_4 a0_5 l0_6).bind fun t251 => ((arboristref42_Size.f k a0_0 a0_1 a0_2 a0_3 l0_4 a0_5 l0_6).bind fun t252 => (if t251 = t252 then ((cst_Leaves.f a0_0 a0_1 a0_2 a0_3 l0_4 a0_5 l0_6).bind fun t253 => ((arboristref42_Leaves.f k a0_0 a0_1 a0_2 a0_3 l0_4 a0_5 l0_6).bind fun t256 => ((arboristref42_SameAll.f k t253 t256).bind fun t259 => (if t259 = true then ((cst_Clean.f a0_0 a0_1 a0_2 a0_3 l0_4 a0_5 l0_6).bind fun t260 => ((arboristref42_Clean.f k a0_0 a0_1 a0_2 a0_3 l0_4 a0_5 l0_6).bind fun t261 => (if (t260 == t261) = true then ((arboristlaw42_knows.f).bind fun t262 => (some t262)) else (none)))) else (none))))) else (none)))) else (none)))) else (none)))) else ((arboristlaw42_knows.f).bind fun t246 => (some t246))) = some r := H
 (have A2 := qM A20); clear A20; (by_cases c3 : t245 = true)
 ·subst c3
  have H1 : ((cst_Text.f a0_0 a0_1 a0_2 a0_3 l0_4 a0_5 l0_6).bind fun t247 => ((arboristref42_Text.f k a0_0 a0_1 a0_2 a0_3 l0_4 a0_5 l0_6).bind fun t248 => (if t247.toList = t248.toList then ((cst_Len.f a0_0 a0_1 a0_2 a0_3 l0_4 a0_5 l0_6).bind fun t249 => ((arboristref42_Len.f k a0_0 a0_1 a0_2 a0_3 l0_4 a0_5 l0_6).bind fun t250 => (if t249 = t250 then ((cst_Size.f a0_0 a0_1 a0_2 a0_3 l0_4 a0_5 l0_6).bind fun t251 => ((arboristref42_Size.f k a0_0 a0_1 a0_2 a0_3 l0_4 a0_5 l0_6).bind fun t252 => (if t251 = t252 then ((cst_Leaves.f a0_0 a0_1 a0_2 a0_3 l0_4 a0_5 l0_6).bind fun t253 => ((arboristref42_Leaves.f k a0_0 a0_1 a0_2 a0_3 l0_4 a0_5 l0_6).bind fun t256 => ((arboristref42_SameAll.f k t253 t256).bind fun t259 => (if t259 = true then ((cst_Clean.f a0_0 a0_1 a0_2 a0_3 l0_4 a0_5 l0_6).bind fun t260 => ((arboristref42_Clean.f k a0_0 a0_1 a0_2 a0_3 l0_4 a0_5 l0_6).bind fun t261 => (if (t260 == t261) = true then ((arboristlaw42_knows.f).bind fun t262 => (some t262)) else (none)))) else (none))))) else (none)))) else (none)))) else (none)))) = some r := by rw [if_pos rfl] at H; exact H
  clear H; (have H := H1); clear H1; (replace H := Option.bind_eq_some_iff.mp H); (obtain ⟨t247, A40, H⟩ := H)
  replace H : ((arboristref42_Text.f k a0_0 a0_1 a0_2 a0_3 l0_4 a0_5 l0_6).bind fun t248 => (if t247.toList = t248.toList then ((cst_Len.f a0_0 a0_1 a0_2 a0_3 l0_4 a0_5 l0_6).bind fun t249 => ((arboristref42_Len.f k a0_0 a0_1 a0_2 a0_3 l0_4 a0_5 l0_6).bind fun t250 => (if t249 = t250 then ((cst_Size.f a0_0 a0_1 a0_2 a0_3 l0_4 a0_5 l0_6).bind fun t251 => ((arboristref42_Size.f k a0_0 a0_1 a0_2 a0_3 l0_4 a0_5 l0_6).bind fun t252 => (if t251 = t252 then ((cst_Leaves.f a0_0 a0_1 a0_2 a0_3 l0_4 a0_5 l0_6).bind fun t253 => ((arboristref42_Leaves.f k a0_0 a0_1 a0_2 a0_3 l0_4 a0_5 l0_6).bind fun t256 => ((arboristref42_SameAll.f k t253 t256).bind fun t259 => (if t259 = true then ((cst_Clean.f a0_0 a0_1 a0_2 a0_3 l0_4 a0_5 l0_6).bind fun t260 => ((arboristref42_Clean.f k a0_0 a0_1 a0_2 a0_3 l0_4 a0_5 l0_6).bind fun t261 => (if (t260 == t261) = true then ((arboristlaw42_knows.f).bind fun t262 => (some t262)) else (none)))) else (none))))) else (none)))) else (none)))) else (none))) = some r := H
  (have A4 := qM A40); clear A40; (replace H := Option.bind_eq_some_iff.mp H); (obtain ⟨t248, A50, H⟩ := H)
  replace H : (if t247.toList = t248.toList then ((cst_Len.f a0_0 a0_1 a0_2 a0_3 l0_4 a0_5 l0_6).bind fun t249 => ((arboristref42_Len.f k a0_0 a0_1 a0_2 a0_3 l0_4 a0_5 l0_6).bind fun t250 => (if t249 = t250 then ((cst_Size.f a0_0 a0_1 a0_2 a0_3 l0_4 a0_5 l0_6).bind fun t251 => ((arboristref42_Size.f k a0_0 a0_1 a0_2 a0_3 l0_4 a0_5 l0_6).bind fun t252 => (if t251 = t252 then ((cst_Leaves.f a0_0 a0_1 a0_2 a0_3 l0_4 a0_5 l0_6).bind fun t253 => ((arboristref42_Leaves.f k a0_0 a0_1 a0_2 a0_3 l0_4 a0_5 l0_6).bind fun t256 => ((arboristref42_SameAll.f k t253 t256).bind fun t259 => (if t259 = true then ((cst_Clean.f a0_0 a0_1 a0_2 a0_3 l0_4 a0_5 l0_6).bind fun t260 => ((arboristref42_Clean.f k a0_0 a0_1 a0_2 a0_3 l0_4 a0_5 l0_6).bind fun t261 => (if (t260 == t261) = true then ((arboristlaw42_knows.f).bind fun t262 => (some t262)) else (none)))) else (none))))) else (none)))) else (none)))) else (none)) = some r := H
  (have A5 := qM A50); clear A50; (by_cases c6 : t247.toList = t248.toList)
  ·rw [if_pos c6] at H
   (have c6b0 : (t247.toList == t248.toList) = true := beq_iff_eq.mpr c6); (have c6b1 : (t247.toList != t248.toList) = false := bne_eq_false_iff_eq.mpr c6); clear c6; (replace H := Option.bind_eq_some_iff.mp H); (obtain ⟨t249, A70, H⟩ := H)
   replace H : ((arboristref42_Len.f k a0_0 a0_1 a0_2 a0_3 l0_4 a0_5 l0_6).bind fun t250 => (if t249 = t250 then ((cst_Size.f a0_0 a0_1 a0_2 a0_3 l0_4 a0_5 l0_6).bind fun t251 => ((arboristref42_Size.f k a0_0 a0_1 a0_2 a0_3 l0_4 a0_5 l0_6).bind fun t252 => (if t251 = t252 then ((cst_Leaves.f a0_0 a0_1 a0_2 a0_3 l0_4 a0_5 l0_6).bind fun t253 => ((arboristref42_Leaves.f k a0_0 a0_1 a0_2 a0_3 l0_4 a0_5 l0_6).bind fun t256 => ((arboristref42_SameAll.f k t253 t256).bind fun t259 => (if t259 = true then ((cst_Clean.f a0_0 a0_1 a0_2 a0_3 l0_4 a0_5 l0_6).bind fun t260 => ((arboristref42_Clean.f k a0_0 a0_1 a0_2 a0_3 l0_4 a0_5 l0_6).bind fun t261 => (if (t260 == t261) = true then ((arboristlaw42_knows.f).bind fun t262 => (some t262)) else (none)))) else (none))))) else (none)))) else (none))) = some r := H
   (have A7 := qM A70); clear A70; (replace H := Option.bind_eq_some_iff.mp H); (obtain ⟨t250, A80, H⟩ := H)
   replace H : (if t249 = t250 then ((cst_Size.f a0_0 a0_1 a0_2 a0_3 l0_4 a0_5 l0_6).bind fun t251 => ((arboristref42_Size.f k a0_0 a0_1 a0_2 a0_3 l0_4 a0_5 l0_6).bind fun t252 => (if t251 = t252 then ((cst_Leaves.f a0_0 a0_1 a0_2 a0_3 l0_4 a0_5 l0_6).bind fun t253 => ((arboristref42_Leaves.f k a0_0 a0_1 a0_2 a0_3 l0_4 a0_5 l0_6).bind fun t256 => ((arboristref42_SameAll.f k t253 t256).bind fun t259 => (if t259 = true then ((cst_Clean.f a0_0 a0_1 a0_2 a0_3 l0_4 a0_5 l0_6).bind fun t260 => ((arboristref42_Clean.f k a0_0 a0_1 a0_2 a0_3 l0_4 a0_5 l0_6).bind fun t261 => (if (t260 == t261) = true then ((arboristlaw42_knows.f).bind fun t262 => (some t262)) else (none)))) else (none))))) else (none)))) else (none)) = some r := H
   (have A8 := qM A80); clear A80; (by_cases c9 : t249 = t250)
   ·rw [if_pos c9] at H
    (have c9b0 : (t249 == t250) = true := beq_iff_eq.mpr c9); (have c9b1 : (t249 != t250) = false := bne_eq_false_iff_eq.mpr c9); clear c9; (replace H := Option.bind_eq_some_iff.mp H); (obtain ⟨t251, A100, H⟩ := H); (replace H : ((arboristref42_Size.f k a0_0 a0_1 a0_2 a0_3 l0_4 a0_5 l0_6).bind fun t252 => (if t251 = t252 then ((cst_Leaves.f a0_0 a0_1 a0_2 a0_3 l0_4 a0_5 l0_6).bind fun t253 => ((arboristref42_Leaves.f k a0_0 a0_1 a0_2 a0_3 l0_4 a0_5 l0_6).bind fun t256 => ((arboristref42_SameAll.f k t253 t256).bind fun t259 => (if t259 = true then ((cst_Clean.f a0_0 a0_1 a0_2 a0_3 l0_4 a0_5 l0_6).bind fun t260 => ((arboristref42_Clean.f k a0_0 a0_1 a0_2 a0_3 l0_4 a0_5 l0_6).bind fun t261 => (if (t260 == t261) = true then ((arboristlaw42_knows.f).bind fun t262 => (some t262)) else (none)))) else (none))))) else (none))) = some r := H); (have A10 := qM A100); clear A100; (replace H := Option.bind_eq_some_iff.mp H); (obtain ⟨t252, A110, H⟩ := H); (replace H : (if t251 = t252 then ((cst_Leaves.f a0_0 a0_1 a0_2 a0_3 l0_4 a0_5 l0_6).bind fun t253 => ((arboristref42_Leaves.f k a0_0 a0_1 a0_2 a0_3 l0_4 a0_5 l0_6).bind fun t256 => ((arboristref42_SameAll.f k t253 t256).bind fun t259 => (if t259 = true then ((cst_Clean.f a0_0 a0_1 a0_2 a0_3 l0_4 a0_5 l0_6).bind fun t260 => ((arboristref42_Clean.f k a0_0 a0_1 a0_2 a0_3 l0_4 a0_5 l0_6).bind fun t261 => (if (t260 == t261) = true then ((arboristlaw42_knows.f).bind fun t262 => (some t262)) else (none)))) else (none))))) else (none)) = some r := H); (have A11 := qM A110); clear A110; (by_cases c12 : t251 = t252)
    ·rw [if_pos c12] at H
     (have c12b0 : (t251 == t252) = true := beq_iff_eq.mpr c12); (have c12b1 : (t251 != t252) = false := bne_eq_false_iff_eq.mpr c12); clear c12; (replace H := Option.bind_eq_some_iff.mp H); (obtain ⟨t253, A130, H⟩ := H); (replace H : ((arboristref42_Leaves.f k a0_0 a0_1 a0_2 a0_3 l0_4 a0_5 l0_6).bind fun t256 => ((arboristref42_SameAll.f k t253 t256).bind fun t259 => (if t259 = true then ((cst_Clean.f a0_0 a0_1 a0_2 a0_3 l0_4 a0_5 l0_6).bind fun t260 => ((arboristref42_Clean.f k a0_0 a0_1 a0_2 a0_3 l0_4 a0_5 l0_6).bind fun t261 => (if (t260 == t261) = true then ((arboristlaw42_knows.f).bind fun t262 => (some t262)) else (none)))) else (none)))) = some r := H); (have A13 := qM A130); clear A130; (replace H := Option.bind_eq_some_iff.mp H); (obtain ⟨t256, A140, H⟩ := H); (replace H : ((arboristref42_SameAll.f k t253 t256).bind fun t259 => (if t259 = true then ((cst_Clean.f a0_0 a0_1 a0_2 a0_3 l0_4 a0_5 l0_6).bind fun t260 => ((arboristref42_Clean.f k a0_0 a0_1 a0_2 a0_3 l0_4 a0_5 l0_6).bind fun t261 => (if (t260 == t261) = true then ((arboristlaw42_knows.f).bind fun t262 => (some t262)) else (none)))) else (none))) = some r := H); (have A14 := qM A140); clear A140; (replace H := Option.bind_eq_some_iff.mp H); (obtain ⟨t259, A150, H⟩ := H); (replace H : (if t259 = true then ((cst_Clean.f a0_0 a0_1 a0_2 a0_3 l0_4 a0_5 l0_6).bind fun t260 => ((arboristref42_Clean.f k a0_0 a0_1 a0_2 a0_3 l0_4 a0_5 l0_6).bind fun t261 => (if (t260 == t261) = true then ((arboristlaw42_knows.f).bind fun t262 => (some t262)) else (none)))) else (none)) = some r := H); (have A15 := qM A150); clear A150; (by_cases c16 : t259 = true)
     ·subst c16
      (have H1 : ((cst_Clean.f a0_0 a0_1 a0_2 a0_3 l0_4 a0_5 l0_6).bind fun t260 => ((arboristref42_Clean.f k a0_0 a0_1 a0_2 a0_3 l0_4 a0_5 l0_6).bind fun t261 => (if (t260 == t261) = true then ((arboristlaw42_knows.f).bind fun t262 => (some t262)) else (none)))) = some r := by rw [if_pos rfl] at H; exact H); clear H; (have H := H1); clear H1; (replace H := Option.bind_eq_some_iff.mp H); (obtain ⟨t260, A170, H⟩ := H); (replace H : ((arboristref42_Clean.f k a0_0 a0_1 a0_2 a0_3 l0_4 a0_5 l0_6).bind fun t261 => (if (t260 == t261) = true then ((arboristlaw42_knows.f).bind fun t262 => (some t262)) else (none))) = some r := H); (have A17 := qM A170); clear A170; (replace H := Option.bind_eq_some_iff.mp H); (obtain ⟨t261, A180, H⟩ := H); (replace H : (if (t260 == t261) = true then ((arboristlaw42_knows.f).bind fun t262 => (some t262)) else (none)) = some r := H); (have A18 := qM A180); clear A180; (by_cases c19 : (t260 == t261) = true)
      ·rw [if_pos c19] at H
       (have c19b0 : (t260 == t261) = true := c19); ((try (have c19b1 : decide (t260 = t261) = true := by simpa using c19))); ((try (have c19b2 : (t260 == t261) = true := by simpa using c19))); clear c19; (replace H := Option.bind_eq_some_iff.mp H); (obtain ⟨t262, A200, H⟩ := H); (replace H : (some t262) = some r := H); (have A20 := qM A200); clear A200; (obtain rfl := Option.some.inj H); (go_enter Tryd.func3, Tryd.ntmps3)
       try go_wp2_with (first | ((with_reducible refine gate_dst (N := 1) rfl ?_); refine box_event ?hg (N := 1) ?hd (cs := #[.int .i64 a0_0, .int .i64 a0_1, .int .i64 a0_2, .int .i64 a0_3, .slice A0_4 l0_4.length c0_4, .string a0_5, .slice A0_6 l0_6.length c0_6]) (t := 26) ?hr ?_; (case hd => rfl); (case hg => rfl); (case hr => first | (go_simp; done) | (go_simp; rfl)); intro gb244 hg w21 hbox hb; have n0_ := qM (qP qF hb); have n1_ := qM (hbox); have n2_ := qM ((by rw [hg]; exact (qZ qF) : w.heap.size ≤ gb244)); have n3_ := qM ((by rw [hg]; exact (qZ qF) : w.heap.size ≤ gb244)); clear HB; have HB := n0_; have BK244 := n1_; have GW244 := n2_; have GE244 := n3_; clear n0_ n1_ n2_ n3_; clear hb hbox hg; obtain ⟨hcz22_0, hcz22_1, hcz22_2, hcz22_3, hcz22_4, hcz22_5, hcz22_6, hfz22_0, hfz22_1, hfz22_2, hfz22_3, hfz22_4, hfz22_5, hfz22_6⟩ := bx7 BK244.out) | ((with_reducible refine gate_callee (f := 8) rfl ?_); refine goesL_ (some 4) rfl rfl Tryd.func8 (by kernel_rfl) rfl #[.agg #[.int .i64 a0_0, .int .i64 a0_1, .int .i64 a0_2, .int .i64 a0_3, .slice A0_4 l0_4.length c0_4, .string a0_5, .slice A0_6 l0_6.length c0_6], .int .i64 300] rfl (by (try simp only [List.map_toArray, List.map_cons, List.map_nil]); first | done | rfl | (simp only [List.length_drop, List.length_take]; rfl)) ?_; (with_reducible refine (arboristref42_Few.calls k a0_0 a0_1 a0_2 a0_3 _ _ l0_4 a0_5 _ _ l0_6 300 true _ ?side1 ?side2 ?side3 ?side4 A2.out).mono ?_); (case side1 => exact qC HR0_4.out qF); (case side2 => exact HC0_4.out); (case side3 => exact qC HR0_6.out qF); (case side4 => exact HC0_6.out); rintro e w23 ⟨rfl, hb⟩; refine ⟨_, rfl, ?_⟩; have n0_ := qM (qb (g := gb244) qK hb); have n1_ := qM (qP qF hb); clear BK244; clear HB; have BK244 := n0_; have HB := n1_; clear n0_ n1_; (try clear hb); (try clear hb2); (try clear hk); (try clear hi)))
       (have n0_ := qM (qd BK244.out)); (have n1_ := qM (qD HB.out)); clear BK244 HB; (have BK244 := n0_); (have HB := n1_); clear n0_ n1_
       refine start_ (n := 37) (S := fun w' => w'.cell? ⟨gb244, 0, none⟩ = some (.int .i64 a0_0) ∧ w'.cell? ⟨gb244, 1, none⟩ = some (.int .i64 a0_1) ∧ w'.cell? ⟨gb244, 2, none⟩ = some (.int .i64 a0_2) ∧ w'.cell? ⟨gb244, 3, none⟩ = some (.int .i64 a0_3) ∧ w'.cell? ⟨gb244, 4, none⟩ = some (.slice A0_4 l0_4.length c0_4) ∧ w'.cell? ⟨gb244, 5, none⟩ = some (.string a0_5) ∧ w'.cell? ⟨gb244, 6, none⟩ = some (.slice A0_6 l0_6.length c0_6)) (ds := []) #[false, false, false, false, false, false, false, false, false, false, false, false, false, false, false, false, false, false, false, false, false, false, false, false, false, false, false, false, false, false, false, false, false, false, false, false, false] (by kernel_rfl) rfl rfl ⟨(blk_cell BK244.out 0).trans rfl, (blk_cell BK244.out 1).trans rfl, (blk_cell BK244.out 2).trans rfl, (blk_cell BK244.out 3).trans rfl, (blk_cell BK244.out 4).trans rfl, (blk_cell BK244.out 5).trans rfl, (blk_cell BK244.out 6).trans rfl⟩ (fun hHeld => ?_); refine with_tabW arboristlaw42_CstTells.tab3 arboristlaw42_CstTells.bits3 (fun HT_ HW_ => ?_)
       (generalize w23.drew = w24 at BK244 HB hHeld ⊢); (refine take_ (i := 0) (N := some 7) (v := ?_) (a' := ?_) #[true, false, false, false, false, false, false, false, false, false, false, false, false, false, false, false, false, false, false, false, false, false, false, false, false, false, false, false, false, false, false, false, false, false, false, false, false] rfl rfl (take_ofW HT_.out HW_.out (by kernel_rfl)) (fun _ _ _ h => h) (Or.inl ⟨by rfl, ?_⟩) hHeld ?_ ?_); rotate_left
       ·rintro w' ⟨s0, s1, s2, s3, s4, s5, s6⟩
        (go_simp); (with_reducible rfl)
       rotate_left; ((simp only [Act.put, List.setIfInBounds_toArray, List.set_cons_zero, List.set_cons_succ, i64_w, i32_w]; rfl)); (refine take_ (i := 2) (N := some 9) (v := ?_) (a' := ?_) #[true, false, true, false, false, false, false, false, false, false, false, false, false, false, false, false, false, false, false, false, false, false, false, false, false, false, false, false, false, false, false, false, false, false, false, false, false] rfl rfl (take_ofW HT_.out HW_.out (by kernel_rfl)) (fun _ _ _ h => h) (Or.inl ⟨by rfl, ?_⟩) hHeld ?_ ?_); rotate_left
       ·rintro w' ⟨s0, s1, s2, s3, s4, s5, s6⟩
        (go_simp); (with_reducible rfl)
       rotate_left; ((simp only [Act.put, List.setIfInBounds_toArray, List.set_cons_zero, List.set_cons_succ, i64_w, i32_w]; rfl)); (refine one_ (i := 1) (N := some 8) #[true, true, true, false, false, false, false, false, false, false, false, false, false, false, false, false, false, false, false, false, false, false, false, false, false, false, false, false, false, false, false, false, false, false, false, false, false] rfl rfl (one_of HT_.out (by kernel_rfl)) (by decide) (fun K hK => ?_)); (refine goes_ Tryd.func10 (by kernel_rfl) rfl #[.agg #[.int .i64 a0_0, .int .i64 a0_1, .int .i64 a0_2, .int .i64 a0_3, .slice A0_4 l0_4.length c0_4, .string a0_5, .slice A0_6 l0_6.length c0_6]] (by rfl) rfl rfl (by (try simp only [List.map_toArray, List.map_cons, List.map_nil]); first | done | rfl | (simp only [List.length_drop, List.length_take]; rfl)) ?_); (with_reducible refine (cst_Text.calls a0_0 a0_1 a0_2 a0_3 _ _ l0_4 a0_5 _ _ l0_6 t247 _ ?side1 ?side2 ?side3 ?side4 A4.out).mono ?_); ((case side1 => exact qC HR0_4.out qF)); ((case side2 => exact HC0_4.out)); ((case side3 => exact qC HR0_6.out qF)); ((case side4 => exact HC0_6.out)); (rintro e w25 ⟨rfl, hb⟩); (refine ⟨_, rfl, ?_⟩); (have n0_ := qM (qb (g := gb244) qK hb)); (have n1_ := qM (qP qF hb)); clear BK244 HB; (have BK244 := n0_); (have HB := n1_); clear n0_ n1_; ((try clear hb)); ((try clear hb2)); ((try clear hk)); ((try clear hi)); (refine hK.out _ _ ⟨(blk_cell BK244.out 0).trans rfl, (blk_cell BK244.out 1).trans rfl, (blk_cell BK244.out 2).trans rfl, (blk_cell BK244.out 3).trans rfl, (blk_cell BK244.out 4).trans rfl, (blk_cell BK244.out 5).trans rfl, (blk_cell BK244.out 6).trans rfl⟩ (fun hHeld => ?_)); clear hK K; (refine norm_ (a' := ?_) ?_ ?_); rotate_left; ((show Act.put _ (some 8) _ = _; simp only [Act.put, List.setIfInBounds_toArray, List.set_cons_zero, List.set_cons_succ, i64_w, i32_w]; rfl))
       (refine one_ (i := 3) (N := some 10) #[true, true, true, true, false, false, false, false, false, false, false, false, false, false, false, false, false, false, false, false, false, false, false, false, false, false, false, false, false, false, false, false, false, false, false, false, false] rfl rfl (one_of HT_.out (by kernel_rfl)) (by decide) (fun K hK => ?_)); (refine goes_ Tryd.func11 (by kernel_rfl) rfl #[.agg #[.int .i64 a0_0, .int .i64 a0_1, .int .i64 a0_2, .int .i64 a0_3, .slice A0_4 l0_4.length c0_4, .string a0_5, .slice A0_6 l0_6.length c0_6]] (by rfl) rfl rfl (by (try simp only [List.map_toArray, List.map_cons, List.map_nil]); first | done | rfl | (simp only [List.length_drop, List.length_take]; rfl)) ?_); (with_reducible refine (arboristref42_Text.calls k a0_0 a0_1 a0_2 a0_3 _ _ l0_4 a0_5 _ _ l0_6 t248 _ ?side1 ?side2 ?side3 ?side4 A5.out).mono ?_); ((case side1 => exact qC HR0_4.out qF)); ((case side2 => exact HC0_4.out)); ((case side3 => exact qC HR0_6.out qF)); ((case side4 => exact HC0_6.out)); (rintro e w26 ⟨rfl, hb⟩); (refine ⟨_, rfl, ?_⟩); (have n0_ := qM (qb (g := gb244) qK hb)); (have n1_ := qM (qP qF hb)); clear BK244 HB; (have BK244 := n0_); (have HB := n1_); clear n0_ n1_; ((try clear hb)); ((try clear hb2)); ((try clear hk)); ((try clear hi)); (refine hK.out _ _ ⟨(blk_cell BK244.out 0).trans rfl, (blk_cell BK244.out 1).trans rfl, (blk_cell BK244.out 2).trans rfl, (blk_cell BK244.out 3).trans rfl, (blk_cell BK244.out 4).trans rfl, (blk_cell BK244.out 5).trans rfl, (blk_cell BK244.out 6).trans rfl⟩ (fun hHeld => ?_)); clear hK K; (refine norm_ (a' := ?_) ?_ ?_); rotate_left; ((show Act.put _ (some 10) _ = _; simp only [Act.put, List.setIfInBounds_toArray, List.set_cons_zero, List.set_cons_succ, i64_w, i32_w]; rfl))
       (refine pure_ (i := 4) (N := some 11) (v := ?_) (a' := ?_) #[true, true, true, true, true, false, false, false, false, false, false, false, false, false, false, false, false, false, false, false, false, false, false, false, false, false, false, false, false, false, false, false, false, false, false, false, false] rfl rfl (any_of HT_.out (by kernel_rfl)) (fun _ _ _ h => h) (Or.inl ⟨by rfl, ?_⟩) ?_ ?_); rotate_left; ((intro w'; go_simp; with_reducible rfl)); rotate_left; ((simp only [Act.put, List.setIfInBounds_toArray, List.set_cons_zero, List.set_cons_succ, i64_w, i32_w]; rfl)); (refine pure_ (i := 5) (N := some 12) (v := ?_) (a' := ?_) #[true, true, true, true, true, true, false, false, false, false, false, false, false, false, false, false, false, false, false, false, false, false, false, false, false, false, false, false, false, false, false, false, false, false, false, false, false] rfl rfl (any_of HT_.out (by kernel_rfl)) (fun _ _ _ h => h) (Or.inl ⟨by rfl, ?_⟩) ?_ ?_); rotate_left; ((intro w'; go_simp; with_reducible rfl)); rotate_left; ((simp only [Act.put, List.setIfInBounds_toArray, List.set_cons_zero, List.set_cons_succ, i64_w, i32_w]; rfl)); (refine take_ (i := 6) (N := some 13) (v := ?_) (a' := ?_) #[true, true, true, true, true, true, true, false, false, false, false, false, false, false, false, false, false, false, false, false, false, false, false, false, false, false, false, false, false, false, false, false, false, false, false, false, false] rfl rfl (take_ofW HT_.out HW_.out (by kernel_rfl)) (fun _ _ _ h => h) (Or.inl ⟨by rfl, ?_⟩) hHeld ?_ ?_); rotate_left
       ·rintro w' ⟨s0, s1, s2, s3, s4, s5, s6⟩
        (go_simp); (with_reducible rfl)
       rotate_left; ((simp only [Act.put, List.setIfInBounds_toArray, List.set_cons_zero, List.set_cons_succ, i64_w, i32_w]; rfl)); (refine take_ (i := 8) (N := some 15) (v := ?_) (a' := ?_) #[true, true, true, true, true, true, true, false, true, false, false, false, false, false, false, false, false, false, false, false, false, false, false, false, false, false, false, false, false, false, false, false, false, false, false, false, false] rfl rfl (take_ofW HT_.out HW_.out (by kernel_rfl)) (fun _ _ _ h => h) (Or.inl ⟨by rfl, ?_⟩) hHeld ?_ ?_); rotate_left
       ·rintro w' ⟨s0, s1, s2, s3, s4, s5, s6⟩
        (go_simp); (with_reducible rfl)
       rotate_left; ((simp only [Act.put, List.setIfInBounds_toArray, List.set_cons_zero, List.set_cons_succ, i64_w, i32_w]; rfl)); (refine one_ (i := 7) (N := some 14) #[true, true, true, true, true, true, true, true, true, false, false, false, false, false, false, false, false, false, false, false, false, false, false, false, false, false, false, false, false, false, false, false, false, false, false, false, false] rfl rfl (one_of HT_.out (by kernel_rfl)) (by decide) (fun K hK => ?_)); (refine goes_ Tryd.func12 (by kernel_rfl) rfl #[.agg #[.int .i64 a0_0, .int .i64 a0_1, .int .i64 a0_2, .int .i64 a0_3, .slice A0_4 l0_4.length c0_4, .string a0_5, .slice A0_6 l0_6.length c0_6]] (by rfl) rfl rfl (by (try simp only [List.map_toArray, List.map_cons, List.map_nil]); first | done | rfl | (simp only [List.length_drop, List.length_take]; rfl)) ?_); (with_reducible refine (cst_Len.calls a0_0 a0_1 a0_2 a0_3 _ _ l0_4 a0_5 _ _ l0_6 t249 _ ?side1 ?side2 ?side3 ?side4 A7.out).mono ?_); ((case side1 => exact qC HR0_4.out qF)); ((case side2 => exact HC0_4.out)); ((case side3 => exact qC HR0_6.out qF)); ((case side4 => exact HC0_6.out)); (rintro e w27 ⟨rfl, hb⟩); (refine ⟨_, rfl, ?_⟩); (have n0_ := qM (qb (g := gb244) qK hb)); (have n1_ := qM (qP qF hb)); clear BK244 HB; (have BK244 := n0_); (have HB := n1_); clear n0_ n1_; ((try clear hb)); ((try clear hb2)); ((try clear hk)); ((try clear hi)); (refine hK.out _ _ ⟨(blk_cell BK244.out 0).trans rfl, (blk_cell BK244.out 1).trans rfl, (blk_cell BK244.out 2).trans rfl, (blk_cell BK244.out 3).trans rfl, (blk_cell BK244.out 4).trans rfl, (blk_cell BK244.out 5).trans rfl, (blk_cell BK244.out 6).trans rfl⟩ (fun hHeld => ?_)); clear hK K; (refine norm_ (a' := ?_) ?_ ?_); rotate_left; ((show Act.put _ (some 14) _ = _; simp only [Act.put, List.setIfInBounds_toArray, List.set_cons_zero, List.set_cons_succ, i64_w, i32_w]; rfl))
       (refine one_ (i := 9) (N := some 16) #[true, true, true, true, true, true, true, true, true, true, false, false, false, false, false, false, false, false, false, false, false, false, false, false, false, false, false, false, false, false, false, false, false, false, false, false, false] rfl rfl (one_of HT_.out (by kernel_rfl)) (by decide) (fun K hK => ?_)); (refine goes_ Tryd.func13 (by kernel_rfl) rfl #[.agg #[.int .i64 a0_0, .int .i64 a0_1, .int .i64 a0_2, .int .i64 a0_3, .slice A0_4 l0_4.length c0_4, .string a0_5, .slice A0_6 l0_6.length c0_6]] (by rfl) rfl rfl (by (try simp only [List.map_toArray, List.map_cons, List.map_nil]); first | done | rfl | (simp only [List.length_drop, List.length_take]; rfl)) ?_); (with_reducible refine (arboristref42_Len.calls k a0_0 a0_1 a0_2 a0_3 _ _ l0_4 a0_5 _ _ l0_6 t250 _ ?side1 ?side2 ?side3 ?side4 A8.out).mono ?_); ((case side1 => exact qC HR0_4.out qF)); ((case side2 => exact HC0_4.out)); ((case side3 => exact qC HR0_6.out qF)); ((case side4 => exact HC0_6.out)); (rintro e w28 ⟨rfl, hb⟩); (refine ⟨_, rfl, ?_⟩); (have n0_ := qM (qb (g := gb244) qK hb)); (have n1_ := qM (qP qF hb)); clear BK244 HB; (have BK244 := n0_); (have HB := n1_); clear n0_ n1_; ((try clear hb)); ((try clear hb2)); ((try clear hk)); ((try clear hi)); (refine hK.out _ _ ⟨(blk_cell BK244.out 0).trans rfl, (blk_cell BK244.out 1).trans rfl, (blk_cell BK244.out 2).trans rfl, (blk_cell BK244.out 3).trans rfl, (blk_cell BK244.out 4).trans rfl, (blk_cell BK244.out 5).trans rfl, (blk_cell BK244.out 6).trans rfl⟩ (fun hHeld => ?_)); clear hK K; (refine norm_ (a' := ?_) ?_ ?_); rotate_left; ((show Act.put _ (some 16) _ = _; simp only [Act.put, List.setIfInBounds_toArray, List.set_cons_zero, List.set_cons_succ, i64_w, i32_w]; rfl))
       (refine pure_ (i := 10) (N := some 17) (v := ?_) (a' := ?_) #[true, true, true, true, true, true, true, true, true, true, true, false, false, false, false, false, false, false, false, false, false, false, false, false, false, false, false, false, false, false, false, false, false, false, false, false, false] rfl rfl (any_of HT_.out (by kernel_rfl)) (fun _ _ _ h => h) (Or.inl ⟨by rfl, ?_⟩) ?_ ?_); rotate_left; ((intro w'; go_simp; with_reducible rfl)); rotate_left; ((simp only [Act.put, List.setIfInBounds_toArray, List.set_cons_zero, List.set_cons_succ, i64_w, i32_w]; rfl)); (refine pure_ (i := 11) (N := some 18) (v := ?_) (a' := ?_) #[true, true, true, true, true, true, true, true, true, true, true, true, false, false, false, false, false, false, false, false, false, false, false, false, false, false, false, false, false, false, false, false, false, false, false, false, false] rfl rfl (any_of HT_.out (by kernel_rfl)) (fun _ _ _ h => h) (Or.inl ⟨by rfl, ?_⟩) ?_ ?_); rotate_left; ((intro w'; go_simp; with_reducible rfl)); rotate_left; ((simp only [Act.put, List.setIfInBounds_toArray, List.set_cons_zero, List.set_cons_succ, i64_w, i32_w]; rfl)); (refine pure_ (i := 12) (N := some 19) (v := ?_) (a' := ?_) #[true, true, true, true, true, true, true, true, true, true, true, true, true, false, false, false, false, false, false, false, false, false, false, false, false, false, false, false, false, false, false, false, false, false, false, false, false] rfl rfl (any_of HT_.out (by kernel_rfl)) (fun _ _ _ h => h) (Or.inl ⟨by rfl, ?_⟩) ?_ ?_); rotate_left; ((intro w'; go_simp; with_reducible rfl)); rotate_left; ((simp only [Act.put, List.setIfInBounds_toArray, List.set_cons_zero, List.set_cons_succ, i64_w, i32_w]; rfl)); (refine take_ (i := 13) (N := some 20) (v := ?_) (a' := ?_) #[true, true, true, true, true, true, true, true, true, true, true, true, true, true, false, false, false, false, false, false, false, false, false, false, false, false, false, false, false, false, false, false, false, false, false, false, false] rfl rfl (take_ofW HT_.out HW_.out (by kernel_rfl)) (fun _ _ _ h => h) (Or.inl ⟨by rfl, ?_⟩) hHeld ?_ ?_); rotate_left
       ·rintro w' ⟨s0, s1, s2, s3, s4, s5, s6⟩
        (go_simp); (with_reducible rfl)
       rotate_left; ((simp only [Act.put, List.setIfInBounds_toArray, List.set_cons_zero, List.set_cons_succ, i64_w, i32_w]; rfl)); (refine take_ (i := 15) (N := some 22) (v := ?_) (a' := ?_) #[true, true, true, true, true, true, true, true, true, true, true, true, true, true, false, true, false, false, false, false, false, false, false, false, false, false, false, false, false, false, false, false, false, false, false, false, false] rfl rfl (take_ofW HT_.out HW_.out (by kernel_rfl)) (fun _ _ _ h => h) (Or.inl ⟨by rfl, ?_⟩) hHeld ?_ ?_); rotate_left
       ·rintro w' ⟨s0, s1, s2, s3, s4, s5, s6⟩
        (go_simp); (with_reducible rfl)
       rotate_left; ((simp only [Act.put, List.setIfInBounds_toArray, List.set_cons_zero, List.set_cons_succ, i64_w, i32_w]; rfl)); (refine one_ (i := 14) (N := some 21) #[true, true, true, true, true, true, true, true, true, true, true, true, true, true, true, true, false, false, false, false, false, false, false, false, false, false, false, false, false, false, false, false, false, false, false, false, false] rfl rfl (one_of HT_.out (by kernel_rfl)) (by decide) (fun K hK => ?_)); (refine goes_ Tryd.func14 (by kernel_rfl) rfl #[.agg #[.int .i64 a0_0, .int .i64 a0_1, .int .i64 a0_2, .int .i64 a0_3, .slice A0_4 l0_4.length c0_4, .string a0_5, .slice A0_6 l0_6.length c0_6]] (by rfl) rfl rfl (by (try simp only [List.map_toArray, List.map_cons, List.map_nil]); first | done | rfl | (simp only [List.length_drop, List.length_take]; rfl)) ?_); (with_reducible refine (cst_Size.calls a0_0 a0_1 a0_2 a0_3 _ _ l0_4 a0_5 _ _ l0_6 t251 _ ?side1 ?side2 ?side3 ?side4 A10.out).mono ?_); ((case side1 => exact qC HR0_4.out qF)); ((case side2 => exact HC0_4.out)); ((case side3 => exact qC HR0_6.out qF)); ((case side4 => exact HC0_6.out)); (rintro e w29 ⟨rfl, hb⟩); (refine ⟨_, rfl, ?_⟩); (have n0_ := qM (qb (g := gb244) qK hb)); (have n1_ := qM (qP qF hb)); clear BK244 HB; (have BK244 := n0_); (have HB := n1_); clear n0_ n1_; ((try clear hb)); ((try clear hb2)); ((try clear hk)); ((try clear hi)); (refine hK.out _ _ ⟨(blk_cell BK244.out 0).trans rfl, (blk_cell BK244.out 1).trans rfl, (blk_cell BK244.out 2).trans rfl, (blk_cell BK244.out 3).trans rfl, (blk_cell BK244.out 4).trans rfl, (blk_cell BK244.out 5).trans rfl, (blk_cell BK244.out 6).trans rfl⟩ (fun hHeld => ?_)); clear hK K; (refine norm_ (a' := ?_) ?_ ?_); rotate_left; ((show Act.put _ (some 21) _ = _; simp only [Act.put, List.setIfInBounds_toArray, List.set_cons_zero, List.set_cons_succ, i64_w, i32_w]; rfl))
       (refine one_ (i := 16) (N := some 23) #[true, true, true, true, true, true, true, true, true, true, true, true, true, true, true, true, true, false, false, false, false, false, false, false, false, false, false, false, false, false, false, false, false, false, false, false, false] rfl rfl (one_of HT_.out (by kernel_rfl)) (by decide) (fun K hK => ?_)); (refine goes_ Tryd.func15 (by kernel_rfl) rfl #[.agg #[.int .i64 a0_0, .int .i64 a0_1, .int .i64 a0_2, .int .i64 a0_3, .slice A0_4 l0_4.length c0_4, .string a0_5, .slice A0_6 l0_6.length c0_6]] (by rfl) rfl rfl (by (try simp only [List.map_toArray, List.map_cons, List.map_nil]); first | done | rfl | (simp only [List.length_drop, List.length_take]; rfl)) ?_); (with_reducible refine (arboristref42_Size.calls k a0_0 a0_1 a0_2 a0_3 _ _ l0_4 a0_5 _ _ l0_6 t252 _ ?side1 ?side2 ?side3 ?side4 A11.out).mono ?_); ((case side1 => exact qC HR0_4.out qF)); ((case side2 => exact HC0_4.out)); ((case side3 => exact qC HR0_6.out qF)); ((case side4 => exact HC0_6.out)); (rintro e w30 ⟨rfl, hb⟩); (refine ⟨_, rfl, ?_⟩); (have n0_ := qM (qb (g := gb244) qK hb)); (have n1_ := qM (qP qF hb)); clear BK244 HB; (have BK244 := n0_); (have HB := n1_); clear n0_ n1_; ((try clear hb)); ((try clear hb2)); ((try clear hk)); ((try clear hi)); (refine hK.out _ _ ⟨(blk_cell BK244.out 0).trans rfl, (blk_cell BK244.out 1).trans rfl, (blk_cell BK244.out 2).trans rfl, (blk_cell BK244.out 3).trans rfl, (blk_cell BK244.out 4).trans rfl, (blk_cell BK244.out 5).trans rfl, (blk_cell BK244.out 6).trans rfl⟩ (fun hHeld => ?_)); clear hK K; (refine norm_ (a' := ?_) ?_ ?_); rotate_left; ((show Act.put _ (some 23) _ = _; simp only [Act.put, List.setIfInBounds_toArray, List.set_cons_zero, List.set_cons_succ, i64_w, i32_w]; rfl)); (refine pure_ (i := 17) (N := some 24) (v := ?_) (a' := ?_) #[true, true, true, true, true, true, true, true, true, true, true, true, true, true, true, true, true, true, false, false, false, false, false, false, false, false, false, false, false, false, false, false, false, false, false, false, false] rfl rfl (any_of HT_.out (by kernel_rfl)) (fun _ _ _ h => h) (Or.inl ⟨by rfl, ?_⟩) ?_ ?_)
       rotate_left; ((intro w'; go_simp; with_reducible rfl)); rotate_left; ((simp only [Act.put, List.setIfInBounds_toArray, List.set_cons_zero, List.set_cons_succ, i64_w, i32_w]; rfl)); (refine pure_ (i := 18) (N := some 25) (v := ?_) (a' := ?_) #[true, true, true, true, true, true, true, true, true, true, true, true, true, true, true, true, true, true, true, false, false, false, false, false, false, false, false, false, false, false, false, false, false, false, false, false, false] rfl rfl (any_of HT_.out (by kernel_rfl)) (fun _ _ _ h => h) (Or.inl ⟨by rfl, ?_⟩) ?_ ?_); rotate_left; ((intro w'; go_simp; with_reducible rfl)); rotate_left; ((simp only [Act.put, List.setIfInBounds_toArray, List.set_cons_zero, List.set_cons_succ, i64_w, i32_w]; rfl)); (refine pure_ (i := 19) (N := some 26) (v := ?_) (a' := ?_) #[true, true, true, true, true, true, true, true, true, true, true, true, true, true, true, true, true, true, true, true, false, false, false, false, false, false, false, false, false, false, false, false, false, false, false, false, false] rfl rfl (any_of HT_.out (by kernel_rfl)) (fun _ _ _ h => h) (Or.inl ⟨by rfl, ?_⟩) ?_ ?_); rotate_left; ((intro w'; go_simp; with_reducible rfl)); rotate_left; ((simp only [Act.put, List.setIfInBounds_toArray, List.set_cons_zero, List.set_cons_succ, i64_w, i32_w]; rfl)); (refine take_ (i := 20) (N := some 27) (v := ?_) (a' := ?_) #[true, true, true, true, true, true, true, true, true, true, true, true, true, true, true, true, true, true, true, true, true, false, false, false, false, false, false, false, false, false, false, false, false, false, false, false, false] rfl rfl (take_ofW HT_.out HW_.out (by kernel_rfl)) (fun _ _ _ h => h) (Or.inl ⟨by rfl, ?_⟩) hHeld ?_ ?_); rotate_left
       ·rintro w' ⟨s0, s1, s2, s3, s4, s5, s6⟩
        (go_simp); (with_reducible rfl)
       rotate_left; ((simp only [Act.put, List.setIfInBounds_toArray, List.set_cons_zero, List.set_cons_succ, i64_w, i32_w]; rfl)); (refine take_ (i := 22) (N := some 29) (v := ?_) (a' := ?_) #[true, true, true, true, true, true, true, true, true, true, true, true, true, true, true, true, true, true, true, true, true, false, true, false, false, false, false, false, false, false, false, false, false, false, false, false, false] rfl rfl (take_ofW HT_.out HW_.out (by kernel_rfl)) (fun _ _ _ h => h) (Or.inl ⟨by rfl, ?_⟩) hHeld ?_ ?_); rotate_left
       ·rintro w' ⟨s0, s1, s2, s3, s4, s5, s6⟩
        (go_simp); (with_reducible rfl)
       rotate_left; ((simp only [Act.put, List.setIfInBounds_toArray, List.set_cons_zero, List.set_cons_succ, i64_w, i32_w]; rfl)); (refine one_ (i := 21) (N := some 28) #[true, true, true, true, true, true, true, true, true, true, true, true, true, true, true, true, true, true, true, true, true, true, true, false, false, false, false, false, false, false, false, false, false, false, false, false, false] rfl rfl (one_of HT_.out (by kernel_rfl)) (by decide) (fun K hK => ?_)); (refine goes_ Tryd.func17 (by kernel_rfl) rfl #[.agg #[.int .i64 a0_0, .int .i64 a0_1, .int .i64 a0_2, .int .i64 a0_3, .slice A0_4 l0_4.length c0_4, .string a0_5, .slice A0_6 l0_6.length c0_6]] (by rfl) rfl rfl (by (try simp only [List.map_toArray, List.map_cons, List.map_nil]); first | done | rfl | (simp only [List.length_drop, List.length_take]; rfl)) ?_); (with_reducible refine (cst_Leaves.calls a0_0 a0_1 a0_2 a0_3 _ _ l0_4 a0_5 _ _ l0_6 t253 _ ?side1 ?side2 ?side3 ?side4 A13.out).mono ?_); ((case side1 => exact qC HR0_4.out qF)); ((case side2 => exact HC0_4.out)); ((case side3 => exact qC HR0_6.out qF)); ((case side4 => exact HC0_6.out)); (rintro e w31 ⟨v254, rfl, ho0, hb⟩); (refine ⟨_, rfl, ?_⟩); (have n0_ := qM (Kd.N_lower (Kd.N_mono (ok' := fun k_ => k_ ≠ gb244) (Kd.R_N (Kd.R_bound ho0)) (fun k_ hk_ => (Kd.freshB (g := gb244) qK k_ hk_.2.1))) (qZ qF))); (have n1_ := qM (qb (g := gb244) qK hb)); (have n2_ := qM (qP qF hb))
       clear BK244 HB; (have HO255 := n0_); (have BK244 := n1_); (have HB := n2_); clear n0_ n1_ n2_; ((try clear hb)); ((try clear hb2)); ((try clear hk)); ((try clear hi)); ((try clear ho0)); (refine hK.out _ _ ⟨(blk_cell BK244.out 0).trans rfl, (blk_cell BK244.out 1).trans rfl, (blk_cell BK244.out 2).trans rfl, (blk_cell BK244.out 3).trans rfl, (blk_cell BK244.out 4).trans rfl, (blk_cell BK244.out 5).trans rfl, (blk_cell BK244.out 6).trans rfl⟩ (fun hHeld => ?_)); clear hK K; (refine norm_ (a' := ?_) ?_ ?_); rotate_left; ((show Act.put _ (some 28) _ = _; simp only [Act.put, List.setIfInBounds_toArray, List.set_cons_zero, List.set_cons_succ, i64_w, i32_w]; rfl)); (refine one_ (i := 23) (N := some 30) #[true, true, true, true, true, true, true, true, true, true, true, true, true, true, true, true, true, true, true, true, true, true, true, true, false, false, false, false, false, false, false, false, false, false, false, false, false] rfl rfl (one_of HT_.out (by kernel_rfl)) (by decide) (fun K hK => ?_)); (refine goes_ Tryd.func18 (by kernel_rfl) rfl #[.agg #[.int .i64 a0_0, .int .i64 a0_1, .int .i64 a0_2, .int .i64 a0_3, .slice A0_4 l0_4.length c0_4, .string a0_5, .slice A0_6 l0_6.length c0_6]] (by rfl) rfl rfl (by (try simp only [List.map_toArray, List.map_cons, List.map_nil]); first | done | rfl | (simp only [List.length_drop, List.length_take]; rfl)) ?_); (with_reducible refine (arboristref42_Leaves.calls k a0_0 a0_1 a0_2 a0_3 (fun k_ => k_ < w.heap.size) _ _ l0_4 a0_5 (fun k_ => k_ < w.heap.size) _ _ l0_6 t256 _ ?side1 ?side2 A14.out).mono ?_); ((case side1 => exact Kd.V_mk HC0_4.out (Kd.F_below (Kd.C_F k46_heap HR0_4.out) qF))); ((case side2 => exact Kd.V_mk HC0_6.out (Kd.F_below (Kd.C_F k26_heap HR0_6.out) qF))); (rintro e w32 ⟨v257, rfl, ho0, hb⟩); (refine ⟨_, rfl, ?_⟩); (have n0_ := qM (Kd.N_elder' (by (with_reducible repeat (first | apply Kd.N_alloc | apply Kd.N_drewN | apply Kd.N_drew)); exact HO255.out) (Kd.N_base ho0) hb))
       have n1_ := qM (Kd.N_lower (Kd.N_mono (ok' := fun k_ => some k_ ≠ (v254 : Value).ownBlock ∧ k_ ≠ gb244) ho0 (fun k_ hk_ => ⟨Or.elim hk_ (fun hs_ => Or.elim hs_ (fun hs_ => fun e_ => Nat.not_le.2 hs_ (Kd.N_base HO255.out k_ e_.symm)) (fun hs_ => fun e_ => Nat.not_le.2 hs_ (Kd.N_base HO255.out k_ e_.symm))) (fun hn_ => (Kd.fresh' (Kd.N_lt (by (with_reducible repeat (first | apply Kd.N_alloc | apply Kd.N_drewN | apply Kd.N_drew)); exact HO255.out)) k_ hn_)), Or.elim hk_ (fun hs_ => Or.elim hs_ (fun hs_ => fun e_ => Nat.not_le.2 hs_ (by rw [e_]; exact GW244.out)) (fun hs_ => fun e_ => Nat.not_le.2 hs_ (by rw [e_]; exact GW244.out))) (fun hn_ => (Kd.freshB (g := gb244) qK k_ hn_))⟩)) (qZ qF))
       (have n2_ := qM (qb (g := gb244) qK hb)); (have n3_ := qM (qP qF hb)); clear HO255 BK244 HB; (have HO255 := n0_); (have HO258 := n1_); (have BK244 := n2_); (have HB := n3_); clear n0_ n1_ n2_ n3_; ((try clear hb)); ((try clear hb2)); ((try clear hk)); ((try clear hi)); ((try clear ho0)); (obtain ⟨Ao33, co33, eo33⟩ := Kd.N_slice HO255.out); ((first | subst eo33 | (injection eo33 with f1_ f2_ f3_; have f4_ := f1_.symm; have f5_ := f3_.symm; clear f1_ f2_ f3_; subst f4_; subst f5_))); (obtain ⟨Ao34, co34, eo34⟩ := Kd.N_slice HO258.out); ((first | subst eo34 | (injection eo34 with f1_ f2_ f3_; have f4_ := f1_.symm; have f5_ := f3_.symm; clear f1_ f2_ f3_; subst f4_; subst f5_))); (refine hK.out _ _ ⟨(blk_cell BK244.out 0).trans rfl, (blk_cell BK244.out 1).trans rfl, (blk_cell BK244.out 2).trans rfl, (blk_cell BK244.out 3).trans rfl, (blk_cell BK244.out 4).trans rfl, (blk_cell BK244.out 5).trans rfl, (blk_cell BK244.out 6).trans rfl⟩ (fun hHeld => ?_)); clear hK K; (refine norm_ (a' := ?_) ?_ ?_); rotate_left; ((show Act.put _ (some 30) _ = _; simp only [Act.put, List.setIfInBounds_toArray, List.set_cons_zero, List.set_cons_succ, i64_w, i32_w]; rfl)); (refine one_ (i := 24) (N := some 31) #[true, true, true, true, true, true, true, true, true, true, true, true, true, true, true, true, true, true, true, true, true, true, true, true, true, false, false, false, false, false, false, false, false, false, false, false, false] rfl rfl (one_of HT_.out (by kernel_rfl)) (by decide) (fun K hK => ?_)); (refine goes_ Tryd.func16 (by kernel_rfl) rfl #[.slice Ao33 t253.length co33, .slice Ao34 t256.length co34] (by rfl) rfl rfl (by (try simp only [List.map_toArray, List.map_cons, List.map_nil]); first | done | rfl | (simp only [List.length_drop, List.length_take]; rfl)) ?_); (with_reducible refine (arboristref42_SameAll.calls k _ _ t253 _ _ t256 true _ ?side1 ?side2 ?side3 ?side4 A15.out).mono ?_); ((case side1 => repeat (first | exact (Kd.N_reads' HO255.out).2.2 | (with_reducible refine Kd.C_alloc ?_ _) | (with_reducible refine Kd.C_drewN ?_ _) | (with_reducible refine Kd.C_drew ?_))))
       ((case side2 => exact (Kd.N_reads' HO255.out).2.1)); ((case side3 => repeat (first | exact (Kd.N_reads' HO258.out).2.2 | (with_reducible refine Kd.C_alloc ?_ _) | (with_reducible refine Kd.C_drewN ?_ _) | (with_reducible refine Kd.C_drew ?_)))); ((case side4 => exact (Kd.N_reads' HO258.out).2.1)); (rintro e w35 ⟨rfl, hb⟩); (refine ⟨_, rfl, ?_⟩); (have n0_ := qM (Kd.N_below (by (with_reducible repeat (first | apply Kd.N_alloc | apply Kd.N_drewN | apply Kd.N_drew)); exact HO255.out) hb)); (have n1_ := qM (Kd.N_below (by (with_reducible repeat (first | apply Kd.N_alloc | apply Kd.N_drewN | apply Kd.N_drew)); exact HO258.out) hb)); (have n2_ := qM (qb (g := gb244) qK hb)); (have n3_ := qM (qP qF hb)); clear HO255 HO258 BK244 HB; (have HO255 := n0_); (have HO258 := n1_); (have BK244 := n2_); (have HB := n3_); clear n0_ n1_ n2_ n3_; ((try clear hb)); ((try clear hb2)); ((try clear hk)); ((try clear hi)); (refine hK.out _ _ ⟨(blk_cell BK244.out 0).trans rfl, (blk_cell BK244.out 1).trans rfl, (blk_cell BK244.out 2).trans rfl, (blk_cell BK244.out 3).trans rfl, (blk_cell BK244.out 4).trans rfl, (blk_cell BK244.out 5).trans rfl, (blk_cell BK244.out 6).trans rfl⟩ (fun hHeld => ?_)); clear hK K; (refine norm_ (a' := ?_) ?_ ?_); rotate_left; ((show Act.put _ (some 31) _ = _; simp only [Act.put, List.setIfInBounds_toArray, List.set_cons_zero, List.set_cons_succ, i64_w, i32_w]; rfl)); (refine pure_ (i := 25) (N := some 32) (v := ?_) (a' := ?_) #[true, true, true, true, true, true, true, true, true, true, true, true, true, true, true, true, true, true, true, true, true, true, true, true, true, true, false, false, false, false, false, false, false, false, false, false, false] rfl rfl (any_of HT_.out (by kernel_rfl)) (fun _ _ _ h => h) (Or.inl ⟨by rfl, ?_⟩) ?_ ?_); rotate_left; ((intro w'; go_simp; with_reducible rfl)); rotate_left; ((simp only [Act.put, List.setIfInBounds_toArray, List.set_cons_zero, List.set_cons_succ, i64_w, i32_w]; rfl)); (refine pure_ (i := 26) (N := some 33) (v := ?_) (a' := ?_) #[true, true, true, true, true, true, true, true, true, true, true, true, true, true, true, true, true, true, true, true, true, true, true, true, true, true, true, false, false, false, false, false, false, false, false, false, false] rfl rfl (any_of HT_.out (by kernel_rfl)) (fun _ _ _ h => h) (Or.inl ⟨by rfl, ?_⟩) ?_ ?_)
       rotate_left; ((intro w'; go_simp; with_reducible rfl)); rotate_left; ((simp only [Act.put, List.setIfInBounds_toArray, List.set_cons_zero, List.set_cons_succ, i64_w, i32_w]; rfl)); (refine take_ (i := 27) (N := some 34) (v := ?_) (a' := ?_) #[true, true, true, true, true, true, true, true, true, true, true, true, true, true, true, true, true, true, true, true, true, true, true, true, true, true, true, true, false, false, false, false, false, false, false, false, false] rfl rfl (take_ofW HT_.out HW_.out (by kernel_rfl)) (fun _ _ _ h => h) (Or.inl ⟨by rfl, ?_⟩) hHeld ?_ ?_); rotate_left
       ·rintro w' ⟨s0, s1, s2, s3, s4, s5, s6⟩
        (go_simp); (with_reducible rfl)
       rotate_left; ((simp only [Act.put, List.setIfInBounds_toArray, List.set_cons_zero, List.set_cons_succ, i64_w, i32_w]; rfl)); (refine take_ (i := 29) (N := some 36) (v := ?_) (a' := ?_) #[true, true, true, true, true, true, true, true, true, true, true, true, true, true, true, true, true, true, true, true, true, true, true, true, true, true, true, true, false, true, false, false, false, false, false, false, false] rfl rfl (take_ofW HT_.out HW_.out (by kernel_rfl)) (fun _ _ _ h => h) (Or.inl ⟨by rfl, ?_⟩) hHeld ?_ ?_); rotate_left
       ·rintro w' ⟨s0, s1, s2, s3, s4, s5, s6⟩
        (go_simp); (with_reducible rfl)
       rotate_left; ((simp only [Act.put, List.setIfInBounds_toArray, List.set_cons_zero, List.set_cons_succ, i64_w, i32_w]; rfl)); (refine one_ (i := 28) (N := some 35) #[true, true, true, true, true, true, true, true, true, true, true, true, true, true, true, true, true, true, true, true, true, true, true, true, true, true, true, true, true, true, false, false, false, false, false, false, false] rfl rfl (one_of HT_.out (by kernel_rfl)) (by decide) (fun K hK => ?_)); (refine goes_ Tryd.func19 (by kernel_rfl) rfl #[.agg #[.int .i64 a0_0, .int .i64 a0_1, .int .i64 a0_2, .int .i64 a0_3, .slice A0_4 l0_4.length c0_4, .string a0_5, .slice A0_6 l0_6.length c0_6]] (by rfl) rfl rfl (by (try simp only [List.map_toArray, List.map_cons, List.map_nil]); first | done | rfl | (simp only [List.length_drop, List.length_take]; rfl)) ?_); (with_reducible refine (cst_Clean.calls a0_0 a0_1 a0_2 a0_3 _ _ l0_4 a0_5 _ _ l0_6 t260 _ ?side1 ?side2 ?side3 ?side4 A17.out).mono ?_); ((case side1 => exact qC HR0_4.out qF)); ((case side2 => exact HC0_4.out)); ((case side3 => exact qC HR0_6.out qF)); ((case side4 => exact HC0_6.out)); (rintro e w36 ⟨rfl, hb⟩); (refine ⟨_, rfl, ?_⟩); (have n0_ := qM (Kd.N_below (by (with_reducible repeat (first | apply Kd.N_alloc | apply Kd.N_drewN | apply Kd.N_drew)); exact HO255.out) hb)); (have n1_ := qM (Kd.N_below (by (with_reducible repeat (first | apply Kd.N_alloc | apply Kd.N_drewN | apply Kd.N_drew)); exact HO258.out) hb)); (have n2_ := qM (qb (g := gb244) qK hb)); (have n3_ := qM (qP qF hb)); clear HO255 HO258 BK244 HB; (have HO255 := n0_); (have HO258 := n1_); (have BK244 := n2_); (have HB := n3_); clear n0_ n1_ n2_ n3_; ((try clear hb)); ((try clear hb2)); ((try clear hk)); ((try clear hi)); (refine hK.out _ _ ⟨(blk_cell BK244.out 0).trans rfl, (blk_cell BK244.out 1).trans rfl, (blk_cell BK244.out 2).trans rfl, (blk_cell BK244.out 3).trans rfl, (blk_cell BK244.out 4).trans rfl, (blk_cell BK244.out 5).trans rfl, (blk_cell BK244.out 6).trans rfl⟩ (fun hHeld => ?_))
       clear hK K; (refine norm_ (a' := ?_) ?_ ?_); rotate_left; ((show Act.put _ (some 35) _ = _; simp only [Act.put, List.setIfInBounds_toArray, List.set_cons_zero, List.set_cons_succ, i64_w, i32_w]; rfl)); (refine one_ (i := 30) (N := some 37) #[true, true, true, true, true, true, true, true, true, true, true, true, true, true, true, true, true, true, true, true, true, true, true, true, true, true, true, true, true, true, true, false, false, false, false, false, false] rfl rfl (one_of HT_.out (by kernel_rfl)) (by decide) (fun K hK => ?_)); (refine goes_ Tryd.func20 (by kernel_rfl) rfl #[.agg #[.int .i64 a0_0, .int .i64 a0_1, .int .i64 a0_2, .int .i64 a0_3, .slice A0_4 l0_4.length c0_4, .string a0_5, .slice A0_6 l0_6.length c0_6]] (by rfl) rfl rfl (by (try simp only [List.map_toArray, List.map_cons, List.map_nil]); first | done | rfl | (simp only [List.length_drop, List.length_take]; rfl)) ?_); (with_reducible refine (arboristref42_Clean.calls k a0_0 a0_1 a0_2 a0_3 _ _ l0_4 a0_5 _ _ l0_6 t261 _ ?side1 ?side2 ?side3 ?side4 A18.out).mono ?_); ((case side1 => exact qC HR0_4.out qF)); ((case side2 => exact HC0_4.out)); ((case side3 => exact qC HR0_6.out qF)); ((case side4 => exact HC0_6.out)); (rintro e w37 ⟨rfl, hb⟩); (refine ⟨_, rfl, ?_⟩); (have n0_ := qM (Kd.N_below (by (with_reducible repeat (first | apply Kd.N_alloc | apply Kd.N_drewN | apply Kd.N_drew)); exact HO255.out) hb)); (have n1_ := qM (Kd.N_below (by (with_reducible repeat (first | apply Kd.N_alloc | apply Kd.N_drewN | apply Kd.N_drew)); exact HO258.out) hb)); (have n2_ := qM (qb (g := gb244) qK hb)); (have n3_ := qM (qP qF hb)); clear HO255 HO258 BK244 HB; (have HO255 := n0_); (have HO258 := n1_); (have BK244 := n2_); (have HB := n3_); clear n0_ n1_ n2_ n3_
       ((try clear hb)); ((try clear hb2)); ((try clear hk)); ((try clear hi)); (refine hK.out _ _ ⟨(blk_cell BK244.out 0).trans rfl, (blk_cell BK244.out 1).trans rfl, (blk_cell BK244.out 2).trans rfl, (blk_cell BK244.out 3).trans rfl, (blk_cell BK244.out 4).trans rfl, (blk_cell BK244.out 5).trans rfl, (blk_cell BK244.out 6).trans rfl⟩ (fun hHeld => ?_)); clear hK K; (refine norm_ (a' := ?_) ?_ ?_); rotate_left; ((show Act.put _ (some 37) _ = _; simp only [Act.put, List.setIfInBounds_toArray, List.set_cons_zero, List.set_cons_succ, i64_w, i32_w]; rfl)); (refine pure_ (i := 31) (N := some 38) (v := ?_) (a' := ?_) #[true, true, true, true, true, true, true, true, true, true, true, true, true, true, true, true, true, true, true, true, true, true, true, true, true, true, true, true, true, true, true, true, false, false, false, false, false] rfl rfl (any_of HT_.out (by kernel_rfl)) (fun _ _ _ h => h) (Or.inl ⟨by rfl, ?_⟩) ?_ ?_); rotate_left; ((intro w'; go_simp; with_reducible rfl)); rotate_left; ((simp only [Act.put, List.setIfInBounds_toArray, List.set_cons_zero, List.set_cons_succ, i64_w, i32_w]; rfl)); (refine pure_ (i := 32) (N := some 39) (v := ?_) (a' := ?_) #[true, true, true, true, true, true, true, true, true, true, true, true, true, true, true, true, true, true, true, true, true, true, true, true, true, true, true, true, true, true, true, true, true, false, false, false, false] rfl rfl (any_of HT_.out (by kernel_rfl)) (fun _ _ _ h => h) (Or.inl ⟨by rfl, ?_⟩) ?_ ?_); rotate_left; ((intro w'; go_simp; with_reducible rfl)); rotate_left; ((simp only [Act.put, List.setIfInBounds_toArray, List.set_cons_zero, List.set_cons_succ, i64_w, i32_w]; rfl)); (refine pure_ (i := 33) (N := some 40) (v := ?_) (a' := ?_) #[true, true, true, true, true, true, true, true, true, true, true, true, true, true, true, true, true, true, true, true, true, true, true, true, true, true, true, true, true, true, true, true, true, true, false, false, false] rfl rfl (any_of HT_.out (by kernel_rfl)) (fun _ _ _ h => h) (Or.inl ⟨by rfl, ?_⟩) ?_ ?_); rotate_left; ((intro w'; go_simp; with_reducible rfl)); rotate_left; ((simp only [Act.put, List.setIfInBounds_toArray, List.set_cons_zero, List.set_cons_succ, i64_w, i32_w]; rfl)); (refine one_ (i := 34) (N := some 41) #[true, true, true, true, true, true, true, true, true, true, true, true, true, true, true, true, true, true, true, true, true, true, true, true, true, true, true, true, true, true, true, true, true, true, true, false, false] rfl rfl (one_of HT_.out (by kernel_rfl)) (by decide) (fun K hK => ?_))
       (refine goes_ Tryd.func9 (by kernel_rfl) rfl #[] (by rfl) rfl rfl (by (try simp only [List.map_toArray, List.map_cons, List.map_nil]); first | done | rfl | (simp only [List.length_drop, List.length_take]; rfl)) ?_); (with_reducible refine (arboristlaw42_knows.calls  t262 _ ?side1 A20.out).mono ?_); ((case side1 => exact GW.below HGW.out qF)); (rintro e w38 ⟨rfl, hb⟩); (refine ⟨_, rfl, ?_⟩); (have n0_ := qM (Kd.N_below (by (with_reducible repeat (first | apply Kd.N_alloc | apply Kd.N_drewN | apply Kd.N_drew)); exact HO255.out) hb)); (have n1_ := qM (Kd.N_below (by (with_reducible repeat (first | apply Kd.N_alloc | apply Kd.N_drewN | apply Kd.N_drew)); exact HO258.out) hb)); (have n2_ := qM (qb (g := gb244) qK hb)); (have n3_ := qM (qP qF hb)); clear HO255 HO258 BK244 HB; (have HO255 := n0_); (have HO258 := n1_); (have BK244 := n2_); (have HB := n3_); clear n0_ n1_ n2_ n3_; ((try clear hb)); ((try clear hb2)); ((try clear hk)); ((try clear hi)); (refine hK.out _ _ ⟨(blk_cell BK244.out 0).trans rfl, (blk_cell BK244.out 1).trans rfl, (blk_cell BK244.out 2).trans rfl, (blk_cell BK244.out 3).trans rfl, (blk_cell BK244.out 4).trans rfl, (blk_cell BK244.out 5).trans rfl, (blk_cell BK244.out 6).trans rfl⟩ (fun hHeld => ?_)); clear hK K; (refine norm_ (a' := ?_) ?_ ?_); rotate_left; ((show Act.put _ (some 41) _ = _; simp only [Act.put, List.setIfInBounds_toArray, List.set_cons_zero, List.set_cons_succ, i64_w, i32_w]; rfl)); (refine pure_ (i := 35) (N := some 42) (v := ?_) (a' := ?_) #[true, true, true, true, true, true, true, true, true, true, true, true, true, true, true, true, true, true, true, true, true, true, true, true, true, true, true, true, true, true, true, true, true, true, true, true, false] rfl rfl (any_of HT_.out (by kernel_rfl)) (fun _ _ _ h => h) (Or.inl ⟨by rfl, ?_⟩) ?_ ?_); rotate_left; ((intro w'; go_simp; with_reducible rfl)); rotate_left; ((simp only [Act.put, List.setIfInBounds_toArray, List.set_cons_zero, List.set_cons_succ, i64_w, i32_w]; rfl))
       (refine pure_ (i := 36) (N := some 2) (v := ?_) (a' := ?_) #[true, true, true, true, true, true, true, true, true, true, true, true, true, true, true, true, true, true, true, true, true, true, true, true, true, true, true, true, true, true, true, true, true, true, true, true, true] rfl rfl (any_of HT_.out (by kernel_rfl)) (fun _ _ _ h => h) (Or.inl ⟨by rfl, ?_⟩) ?_ ?_); rotate_left; ((intro w'; go_simp; with_reducible rfl)); rotate_left; ((simp only [Act.put, List.setIfInBounds_toArray, List.set_cons_zero, List.set_cons_succ, i64_w, i32_w]; rfl)); (refine done_ (done_of HT_.out (by kernel_rfl)) ?_); (try go_wp2); (go_ret); (exact ⟨qE, qF⟩)
      ·rw [if_neg c19] at H
       exact absurd H (by simp)
     ·replace c16 := Bool.eq_false_iff.mpr c16
      subst c16; (have H1 : (none) = some r := by rw [if_neg (show ¬ (false = true) by decide)] at H; exact H); clear H; (have H := H1); clear H1; (exact absurd H (by simp))
    ·rw [if_neg c12] at H
     exact absurd H (by simp)
   ·rw [if_neg c9] at H
    exact absurd H (by simp)
  ·rw [if_neg c6] at H
   exact absurd H (by simp)
 ·replace c3 := Bool.eq_false_iff.mpr c3
  subst c3; (have H1 : ((arboristlaw42_knows.f).bind fun t246 => (some t246)) = some r := by rw [if_neg (show ¬ (false = true) by decide)] at H; exact H); clear H; (have H := H1); clear H1; (replace H := Option.bind_eq_some_iff.mp H); (obtain ⟨t246, A390, H⟩ := H); (replace H : (some t246) = some r := H); (have A39 := qM A390); clear A390; (obtain rfl := Option.some.inj H); (go_enter Tryd.func3, Tryd.ntmps3)
  go_wp2_with (first | ((with_reducible refine gate_dst (N := 1) rfl ?_); refine box_event ?hg (N := 1) ?hd (cs := #[.int .i64 a0_0, .int .i64 a0_1, .int .i64 a0_2, .int .i64 a0_3, .slice A0_4 l0_4.length c0_4, .string a0_5, .slice A0_6 l0_6.length c0_6]) (t := 26) ?hr ?_; (case hd => rfl); (case hg => rfl); (case hr => first | (go_simp; done) | (go_simp; rfl)); intro gb244 hg w40 hbox hb; have n0_ := qM (qP qF hb); have n1_ := qM (hbox); have n2_ := qM ((by rw [hg]; exact (qZ qF) : w.heap.size ≤ gb244)); have n3_ := qM ((by rw [hg]; exact (qZ qF) : w.heap.size ≤ gb244)); clear HB; have HB := n0_; have BK244 := n1_; have GW244 := n2_; have GE244 := n3_; clear n0_ n1_ n2_ n3_; clear hb hbox hg; obtain ⟨hcz41_0, hcz41_1, hcz41_2, hcz41_3, hcz41_4, hcz41_5, hcz41_6, hfz41_0, hfz41_1, hfz41_2, hfz41_3, hfz41_4, hfz41_5, hfz41_6⟩ := bx7 BK244.out) | ((with_reducible refine gate_callee (f := 8) rfl ?_); refine goesL_ (some 4) rfl rfl Tryd.func8 (by kernel_rfl) rfl #[.agg #[.int .i64 a0_0, .int .i64 a0_1, .int .i64 a0_2, .int .i64 a0_3, .slice A0_4 l0_4.length c0_4, .string a0_5, .slice A0_6 l0_6.length c0_6], .int .i64 300] rfl (by (try simp only [List.map_toArray, List.map_cons, List.map_nil]); first | done | rfl | (simp only [List.length_drop, List.length_take]; rfl)) ?_; (with_reducible refine (arboristref42_Few.calls k a0_0 a0_1 a0_2 a0_3 _ _ l0_4 a0_5 _ _ l0_6 300 false _ ?side1 ?side2 ?side3 ?side4 A2.out).mono ?_); (case side1 => exact qC HR0_4.out qF); (case side2 => exact HC0_4.out); (case side3 => exact qC HR0_6.out qF); (case side4 => exact HC0_6.out); rintro e w42 ⟨rfl, hb⟩; refine ⟨_, rfl, ?_⟩; have n0_ := qM (qb (g := gb244) qK hb); have n1_ := qM (qP qF hb); clear BK244; clear HB; have BK244 := n0_; have HB := n1_; clear n0_ n1_; (try clear hb); (try clear hb2); (try clear hk); (try clear hi)) | ((with_reducible refine gate_callee (f := 9) rfl ?_); refine goesL_ (some 6) rfl rfl Tryd.func9 (by kernel_rfl) rfl #[] rfl (by (try simp only [List.map_toArray, List.map_cons, List.map_nil]); first | done | rfl | (simp only [List.length_drop, List.length_take]; rfl)) ?_; (with_reducible refine (arboristlaw42_knows.calls  t246 _ ?side1 A39.out).mono ?_); (case side1 => exact GW.below HGW.out qF); rintro e w43 ⟨rfl, hb⟩; refine ⟨_, rfl, ?_⟩; have n0_ := qM (qb (g := gb244) qK hb); have n1_ := qM (qP qF hb); clear BK244; clear HB; have BK244 := n0_; have HB := n1_; clear n0_ n1_; (try clear hb); (try clear hb2); (try clear hk); (try clear hi)))
  (go_ret); (exact ⟨qE, qF⟩)
end Go.Proofs.YtphmgaijkdflnaaDoor.H
end
section
namespace Go.Proofs.YtphmgaijkdflnaaDoor.H
open Go.RowKit Go.Proofs.YtphmgaijkdflnaaDoorW.PrintWords Go.Proofs.YtphmgaijkdflnaaDoorW.PrintLast Go.Proofs.YtphmgaijkdflnaaDoorW.PrintMore
set_option linter.unusedVariables false
set_option linter.unusedSimpArgs false
theorem Pure.CstTells (x : S26) (hx : ok26 x) : ∃ k, arboristlaw42_CstTells.f k x.f0 x.f1 x.f2 x.f3 x.f4 x.f5 x.f6 = some true := by
  refine Ends.get (g := fun k => arboristlaw42_CstTells.f k x.f0 x.f1 x.f2 x.f3 x.f4 x.f5 x.f6) ?_
  unfold arboristlaw42_CstTells.f
  by_cases hw : wN x ≤ 300
  · have hm := mild_of hw
    have h1 := pre_len x
    have h2 := leaves_len x
    refine Ends.bind ((tfew_ends x hx).val (decide_eq_true hw)) (Ends.pos rfl ?_)
    refine Ends.bind0 (text_val hm) (Ends.bind (rtext_ends x hx hw) (Ends.pos rfl ?_))
    refine Ends.bind0 (len_val hm) (Ends.bind (show Ends (fun k => arboristref42_Len.f k x.f0 x.f1 x.f2 x.f3 x.f4 x.f5 x.f6) ((textB x).size : Int) from Ends.bind (rtext_ends x hx hw) (Ends.const _)) (Ends.pos rfl ?_))
    refine Ends.bind0 (size_val hm) (Ends.bind (rsize_ends x hx hw) (Ends.pos rfl ?_))
    refine Ends.bind0 (leaves_val hm) (Ends.bind (rleaves_ends hx hw) (Ends.bind (sameall_ends (leavesN x) (by omega) (leaves_ok hx)) (Ends.pos rfl ?_)))
    exact Ends.bind0 (clean_val hm) (Ends.bind (rclean_ends hx hw) (Ends.pos (by simp) knows_ends))
  · exact Ends.bind ((tfew_ends x hx).val (decide_eq_false hw)) (Ends.neg (by simp) knows_ends)
end Go.Proofs.YtphmgaijkdflnaaDoor.H
end
section
namespace Go.Proofs.YtphmgaijkdflnaaDoor.H.cstTells
open Go.ChangeShapes Go.WideShapes Go.ChangeAt Go.RowKit Go.Proofs.YtphmgaijkdflnaaDoorW.PrintWords Go.Proofs.YtphmgaijkdflnaaDoorW.PrintLast Go.Proofs.YtphmgaijkdflnaaDoorW.PrintMore
open Go.ChangeMaps (open_string shut_string)
set_option linter.unusedVariables false
set_option linter.unusedSimpArgs false
theorem own : ownKnob Tryd.prog.godebug = none := by kernel_rfl
theorem laidOut : laidOutB Tryd.prog = true := by kernel_rfl
noncomputable def laidWorld (os : Os) : World := { World.holding Tryd.prog os ⟨#[], #[], []⟩ with heap := ((((((World.holding Tryd.prog os ⟨#[], #[], []⟩).heap).modify 3 (fun | .cells _ t frozen => .cells (([0, 1, 28, 2, 29, 14, 24, 3, 30, 22, 20, 15, 25, 17, 4, 8, 31, 27, 13, 23, 21, 19, 16, 7, 26, 12, 18, 6, 11, 5, 10, 9] : List Int).map fun z => Value.int .u8 z).toArray t frozen | o => o)).modify 4 (fun | .cells _ t frozen => .cells (([0, 1, 56, 2, 57, 49, 28, 3, 61, 58, 42, 50, 38, 29, 17, 4, 62, 47, 59, 36, 45, 43, 51, 22, 53, 39, 33, 30, 24, 18, 12, 5, 63, 55, 48, 27, 60, 41, 37, 16, 46, 35, 44, 21, 52, 32, 23, 11, 54, 26, 40, 15, 34, 20, 31, 10, 25, 14, 19, 9, 13, 8, 7, 6] : List Int).map fun z => Value.int .u8 z).toArray t frozen | o => o)).modify 2 (fun | .cells _ t frozen => .cells (([1, 10, 100, 1000, 10000, 100000, 1000000, 10000000, 100000000, 1000000000, 10000000000, 100000000000, 1000000000000, 10000000000000, 100000000000000, 1000000000000000, 10000000000000000, 100000000000000000, 1000000000000000000, 10000000000000000000] : List Int).map fun z => Value.int .u64 z).toArray t frozen | o => o)).modify 1 (fun | .cells _ t frozen => .cells (([128, 191, 160, 191, 128, 159, 144, 191, 128, 143, 0, 0, 0, 0, 0, 0, 0, 0, 0, 0, 0, 0, 0, 0, 0, 0, 0, 0, 0, 0, 0, 0] : List Int).map fun z => Value.int .u8 z).toArray t frozen | o => o)).modify 0 (fun | .cells _ t frozen => .cells (([240, 240, 240, 240, 240, 240, 240, 240, 240, 240, 240, 240, 240, 240, 240, 240, 240, 240, 240, 240, 240, 240, 240, 240, 240, 240, 240, 240, 240, 240, 240, 240, 240, 240, 240, 240, 240, 240, 240, 240, 240, 240, 240, 240, 240, 240, 240, 240, 240, 240, 240, 240, 240, 240, 240, 240, 240, 240, 240, 240, 240, 240, 240, 240, 240, 240, 240, 240, 240, 240, 240, 240, 240, 240, 240, 240, 240, 240, 240, 240, 240, 240, 240, 240, 240, 240, 240, 240, 240, 240, 240, 240, 240, 240, 240, 240, 240, 240, 240, 240, 240, 240, 240, 240, 240, 240, 240, 240, 240, 240, 240, 240, 240, 240, 240, 240, 240, 240, 240, 240, 240, 240, 240, 240, 240, 240, 240, 240, 241, 241, 241, 241, 241, 241, 241, 241, 241, 241, 241, 241, 241, 241, 241, 241, 241, 241, 241, 241, 241, 241, 241, 241, 241, 241, 241, 241, 241, 241, 241, 241, 241, 241, 241, 241, 241, 241, 241, 241, 241, 241, 241, 241, 241, 241, 241, 241, 241, 241, 241, 241, 241, 241, 241, 241, 241, 241, 241, 241, 241, 241, 241, 241, 241, 241, 2, 2, 2, 2, 2, 2, 2, 2, 2, 2, 2, 2, 2, 2, 2, 2, 2, 2, 2, 2, 2, 2, 2, 2, 2, 2, 2, 2, 2, 2, 19, 3, 3, 3, 3, 3, 3, 3, 3, 3, 3, 3, 3, 35, 3, 3, 52, 4, 4, 4, 68, 241, 241, 241, 241, 241, 241, 241, 241, 241, 241, 241] : List Int).map fun z => Value.int .u8 z).toArray t frozen | o => o) }
set_option maxRecDepth 100000 in
theorem laid_met (os : Os) (args : Array Value) : laidMet Tryd.prog Rows.cstTellsRow.laid ((laidWorld os).forCall (fun _ _ => 0) ⟨#[], args, []⟩).memory := laidMet_of_run' 8 (by kernel_rfl) (by kernel_rfl)
set_option maxRecDepth 100000 in
theorem witness_row (os : Os) {H : Type} (enc : TypeId × Value → H) :
    (OpenSpec.ofChange Rows.cstTellsSpec).preRow enc Tryd.prog Tryd.f3 Rows.cstTellsRow.domain false Rows.cstTellsRow.laid ((laidWorld os).forCall (fun _ _ => 0) ⟨#[], #[.agg #[.int .i64 0, .int .i64 0, .int .i64 0, .int .i64 0, .slice none 0 0, .string ⟨#[]⟩, .slice none 0 0]], []⟩).memory #[.agg #[.int .i64 0, .int .i64 0, .int .i64 0, .int .i64 0, .slice none 0 0, .string ⟨#[]⟩, .slice none 0 0]] := by
  have hw : (DataW.whole enc Tryd.prog ((laidWorld os).forCall (fun _ _ => 0) ⟨#[], #[.agg #[.int .i64 0, .int .i64 0, .int .i64 0, .int .i64 0, .slice none 0 0, .string ⟨#[]⟩, .slice none 0 0]], []⟩).memory Tryd.f3.params.toList (OpenSpec.ofChange Rows.cstTellsSpec).vars false (#[.agg #[.int .i64 0, .int .i64 0, .int .i64 0, .int .i64 0, .slice none 0 0, .string ⟨#[]⟩, .slice none 0 0]] : Array Value).toList 8).map (fun x => (x.1, x.2.1)) =
      some ([.agg [.lit (.int .i64 0), .lit (.int .i64 0), .lit (.int .i64 0), .lit (.int .i64 0), .nil, .lit (.string []), .nil]], []) := by kernel_rfl
  obtain ⟨⟨x1, x2, x3⟩, hx, hx1⟩ := Option.map_eq_some_iff.1 hw
  simp only [Prod.mk.injEq] at hx1
  obtain ⟨rfl, rfl⟩ := hx1
  exact OpenSpec.preRow_of_cond 8 hx (by kernel_rfl) (fun k hk => by cases hk) (by kernel_rfl) (laid_met os _)
set_option maxRecDepth 100000 in
set_option maxHeartbeats 2000000 in
theorem lifted (os : Os) (started : os.Started) (H : Type) (enc : TypeId × Value → H) (F : Stop.Interp) :
    ReturnsInHanded {} Tryd.checked os 3 .any ((OpenSpec.ofChange Rows.cstTellsSpec).preRow enc Tryd.prog Tryd.f3 Rows.cstTellsRow.domain false Rows.cstTellsRow.laid) (((OpenSpec.ofChange Rows.cstTellsSpec).at F).post enc Tryd.prog Tryd.f3 false true false false) := by
  refine returnsInHanded_of_row (C := Tryd.checked) (s := (OpenSpec.ofChange Rows.cstTellsSpec)) own started (by kernel_rfl) Tryd.func3
    (witness_row_at (enc := enc) (C := Tryd.checked) false (laidWorld os) #[.agg #[.int .i64 0, .int .i64 0, .int .i64 0, .int .i64 0, .slice none 0 0, .string ⟨#[]⟩, .slice none 0 0]] rfl (by kernel_rfl) (by kernel_rfl) (by kernel_rfl) (witness_row os enc)) ?_
  intro W base args ds gs before hval0 hW _ hcond0 hsz0 hL hsh _
  have hsz : (DataW.weightsEach Tryd.prog (Tryd.f3.params.toList ++ (OpenSpec.ofChange Rows.cstTellsSpec).bare.plain.varTypes Tryd.prog) (ds ++ gs)).all (· ≤ reachBytes) = true := hsz0
  have hval : ∀ (j : Nat) t v, Tryd.f3.params[j]? = some t → args[j]? = some v → Value.okWide Tryd.prog W .any base t v := hval0
  have hW' := hW
  obtain ⟨p, q, hA0, hV0, rfl, _, _⟩ := hW
  have hA : DataW.TrodAll enc Tryd.prog W 0 (fun _ => true) true Tryd.f3.params.toList args.toList ds p := hA0
  rw [Tryd.params3] at hA hval hsz
  obtain ⟨v0, vs0, d0, ds0, p0, q0, hargs, rfl, rfl, h0, r0⟩ := trodAll_cons hA
  obtain ⟨rfl, rfl, rfl⟩ := trodAll_nil r0
  obtain rfl : args = #[v0] := by cases args; simp_all
  obtain ⟨rfl, rfl⟩ := trodVars_none hV0
  have hlt : ∀ x ∈ p0 ++ ([]), x.block < W.heap.size := fun x hx => by simpa using hW'.lt x (by simpa using hx)
  obtain ⟨c0, rfl, hc0⟩ := okWide_struct Tryd.underlying26 (hval 0 26 v0 rfl rfl)
  obtain ⟨a0, hK0, ok0_, sz0_⟩ := Opens.of (fun b => opens_k26 b) hsz (j := 0) (t := 26) rfl rfl h0
  obtain ⟨A0_4, c0_4, A0_6, c0_6, e0_, l0_4, g0_4, l0_6, g0_6⟩ := k26_open hK0
  obtain rfl : c0 = #[.int .i64 a0.f0, .int .i64 a0.f1, .int .i64 a0.f2, .int .i64 a0.f3, .slice A0_4 a0.f4.length c0_4, .string a0.f5, .slice A0_6 a0.f6.length c0_6] := by cases c0; simp_all [Value.cells]
  have hgw : GW W := gw_of hsh (Go.Lib.laidMet.reads hL (List.Mem.tail _ (List.Mem.tail _ (List.Mem.head _)))) (Go.Lib.laidMet.reads hL (List.Mem.tail _ (List.Mem.tail _ (List.Mem.tail _ (List.Mem.tail _ (List.Mem.head _)))))) (Go.Lib.laidMet.reads hL (List.Mem.tail _ (List.Mem.tail _ (List.Mem.tail _ (List.Mem.head _))))) (Go.Lib.laidMet.reads hL (List.Mem.tail _ (List.Mem.head _)))
  clear hcond0 hsz0 hA0 hV0 hval0
  obtain ⟨k, hf⟩ := Pure.CstTells a0 ok0_
  refine (arboristlaw42_CstTells.calls k a0.f0 a0.f1 a0.f2 a0.f3 _ _ a0.f4 a0.f5 _ _ a0.f6 true W hgw g0_4 l0_4 g0_6 l0_6 hf).mono fun e W' ⟨he, bel⟩ => ?_
  subst he
  exact ⟨_, rfl, _, _, _, [], _, [], hW', trodAll_mk1 (shut_bool Tryd.underlying4 _), (trodAll_cons_mk (Below.trod laidOut (by kernel_rfl) (of_decide_eq_true (by kernel_rfl)) h0 bel (fun x hx => hlt x (by simp [hx]))) trodAll_mk0), rfl, bel.frame _, fun h => by cases h⟩
set_option maxRecDepth 100000 in
theorem holds : Rows.cstTellsRow.holds Tryd.pinned (OpenSpec.ofChange Rows.cstTellsSpec) :=
  OpenClaim.holds_of_cond 3 Tryd.f3 rfl rfl rfl rfl rfl rfl rfl ⟨rfl, rfl, rfl, rfl, rfl⟩ rfl rfl rfl rfl rfl (by kernel_rfl) Tryd.func3 (by kernel_rfl)
    (of_decide_eq_true (by kernel_rfl)) (by unfold Func.isWrapper; first | (rw [if_pos (by decide +kernel)]; kernel_rfl) | (rw [if_neg (by decide +kernel)]; exact ⟨rfl, rfl⟩))
    (fun os started H enc _ F0 => by rw [OpenClaim.pre_eq_preRow]; exact lifted os started H enc F0)
set_option maxRecDepth 100000 in
theorem card : Rows.CstTellsCardSaid :=
  Claim7.holds_tied_plain_at .later [] [.data, .data, .data, .data, .pinned] true (true, "d5cdaa30bb89ef6c8005c66b0274befb33d87d1f4327f431305be44b4451cda0") false
    holds (fun _ h => by cases h) (by kernel_rfl) (fun _ h => by cases h) cstTells_row_tie rfl ⟨rfl, rfl⟩ (by kernel_rfl) rfl
    (fun f fn hf hfn => by
      obtain rfl : f = 3 := Option.some.inj ((show Tryd.prog.funcNamed "arborist/arboristlaw42.CstTells" = some 3 by kernel_rfl).symm.trans hf) |>.symm
      obtain rfl : fn = Tryd.f3 := (Option.some.inj (Tryd.func3.symm.trans hfn)).symm
      exact ⟨by kernel_rfl, fun j t ht => by
        rw [Tryd.params3] at ht
        rcases j with _ | j
        · obtain rfl : t = 26 := by simpa using ht.symm
          kernel_rfl
        · simp at ht⟩)
    (by kernel_rfl)
#print axioms card
end Go.Proofs.YtphmgaijkdflnaaDoor.H.cstTells
namespace Go.Proofs.YtphmgaijkdflnaaDoor
theorem cstTells_card : Rows.CstTellsCardSaid := H.cstTells.card
#print axioms cstTells_card
end Go.Proofs.YtphmgaijkdflnaaDoor
end
