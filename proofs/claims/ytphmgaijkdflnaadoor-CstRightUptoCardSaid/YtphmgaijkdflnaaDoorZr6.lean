/- A part (6 of 7) of this proof: For every grammar and tree that the guards let in and whose bulk lies within the bound, CstRight returns true: Right and Show of package cst agree with the reference. -/
import Derived.Shelf.Lays
import Derived.Shelf.Strings.BuilderX
import Derived.KernelRfl
import Derived.Test.YtphmgaijkdflnaaDoorProg
import Derived.Shelf.Strconv.Itoa3
import Derived.Shelf.Unicode.DecodeAny
import Derived.Shelf.Spec.TrailingZeros
import Derived.Test.YtphmgaijkdflnaaDoorRows
import Derived.Lib.LaidU8T
import Derived.Lib.LaidTab
import Derived.Shelf.Vars
import Derived.RangeFuncNested
import Derived.RangeFuncBound
import Derived.RangeFuncCalls
import Derived.RangeFuncLeaves
import Derived.RangeFuncBox
import Derived.Shelf.Abstract
import Derived.Shelf.RegionOpen
import Derived.WalkKit
import Derived.OwnWalkIn
import Derived.TacticsInMore
import Derived.LoopNIn
import Derived.LoopIn
import Derived.Laws.EntriesVeiled
import Derived.Lib.BufferWrite
import Derived.Lib.SlBuf
import Derived.Laws.IdiomStrings
import Derived.BigRegionIn
import Derived.OrdersIn
import Derived.Deep.RegionHeld3
import Derived.Laws.BitsLemmas
import Derived.Shelf.Strings.BuilderK
import Derived.Shelf.Strings.OnBuilder
import Derived.Test.YtphmgaijkdflnaaDoorZr5
section
namespace Go.Proofs
open Go.Shelf
set_option maxRecDepth 100000
def Tryd.ren : Go.Shelf.Ren := ⟨fun | 0 => 0 | 1 => 1 | 2 => 2 | 129 => 93 | 166 => 45 | 167 => 66 | 169 => 46 | 173 => 80 | 197 => 79 | 240 => 69 | 246 => 87 | 260 => 86 | 276 => 81 | 283 => 88 | 284 => 89 | 285 => 90 | 286 => 91 | 317 => 92 | 318 => 94 | 319 => 95 | 320 => 96 | 337 => 97 | 338 => 98 | 347 => 99 | 348 => 100 | 349 => 101 | 350 => 102 | 351 => 103 | 352 => 104 | 353 => 105 | 354 => 106 | 355 => 107 | 356 => 108 | 357 => 109 | 358 => 110 | 359 => 111 | 360 => 112 | 361 => 113 | 362 => 114 | 366 => 115 | 367 => 123 | n => n, fun | 0 => 0 | 1 => 1 | 2 => 2 | 3 => 3 | 4 => 4 | 5 => 5 | 6 => 6 | 7 => 7 | 8 => 8 | 9 => 9 | 10 => 10 | 11 => 11 | 12 => 12 | 13 => 13 | 14 => 14 | 15 => 15 | 16 => 16 | 17 => 17 | 18 => 18 | 19 => 19 | 20 => 20 | 21 => 21 | 28 => 56 | 31 => 35 | 37 => 50 | 46 => 109 | 47 => 125 | 51 => 123 | 52 => 126 | 53 => 115 | 54 => 116 | 69 => 66 | 70 => 67 | 71 => 68 | 72 => 69 | 74 => 70 | 75 => 71 | 76 => 72 | 77 => 73 | 78 => 83 | 80 => 74 | 81 => 134 | 83 => 113 | 84 => 102 | 105 => 100 | 106 => 101 | 111 => 98 | 114 => 120 | 119 => 108 | 127 => 89 | 137 => 110 | 138 => 111 | 139 => 112 | 164 => 103 | 165 => 104 | 171 => 114 | 172 => 117 | 173 => 118 | 174 => 119 | 211 => 121 | 212 => 122 | 213 => 124 | 232 => 127 | 233 => 128 | 238 => 129 | 239 => 130 | 240 => 131 | 241 => 132 | 242 => 133 | 243 => 135 | 244 => 136 | 245 => 137 | 246 => 138 | 247 => 139 | 248 => 140 | 249 => 141 | n => n, fun | 3 => 0 | 4 => 1 | 17 => 2 | 18 => 3 | 19 => 4 | n => n⟩
theorem Tryd.ly166 : Go.Proofs.Lays.n166 Tryd.prog Tryd.ren := {
 mixed := by kernel_rfl
 f166 := Tryd.func45.trans (congrArg some (by kernel_rfl))
 f240 := Tryd.func69.trans (congrArg some (by kernel_rfl))
 f276 := Tryd.func81.trans (congrArg some (by kernel_rfl))
 t0 := Tryd.underlying0
 a0 := Tryd.isAgg0
 z0 := Tryd.sizeOf0
 v0 := Tryd.zeroValue0
 t3 := Tryd.underlying3
 a3 := Tryd.isAgg3
 z3 := Tryd.sizeOf3
 v3 := Tryd.zeroValue3
 t4 := Tryd.underlying4
 a4 := Tryd.isAgg4
 z4 := Tryd.sizeOf4
 v4 := Tryd.zeroValue4
 t9 := Tryd.underlying9
 a9 := Tryd.isAgg9
 z9 := Tryd.sizeOf9
 v9 := Tryd.zeroValue9
 t20 := Tryd.underlying20
 a20 := Tryd.isAgg20
 z20 := Tryd.sizeOf20
 v20 := Tryd.zeroValue20
 t37 := Tryd.underlying50
 a37 := Tryd.isAgg50
 z37 := Tryd.sizeOf50
 v37 := Tryd.zeroValue50
 t70 := Tryd.underlying67
 a70 := Tryd.isAgg67
 z70 := Tryd.sizeOf67
 v70 := Tryd.zeroValue67
 t72 := Tryd.underlying69
 a72 := Tryd.isAgg69
 z72 := Tryd.sizeOf69
 v72 := Tryd.zeroValue69
 t75 := Tryd.underlying71
 a75 := Tryd.isAgg71
 z75 := Tryd.sizeOf71
 v75 := Tryd.zeroValue71
 t164 := Tryd.underlying103
 a164 := Tryd.isAgg103
 z164 := Tryd.sizeOf103
 v164 := Tryd.zeroValue103 }
theorem Tryd.ly167 : Go.Proofs.Lays.n167 Tryd.prog Tryd.ren := {
 mixed := by kernel_rfl
 f167 := Tryd.func66.trans (congrArg some (by kernel_rfl))
 f240 := Tryd.func69.trans (congrArg some (by kernel_rfl))
 f276 := Tryd.func81.trans (congrArg some (by kernel_rfl))
 t0 := Tryd.underlying0
 a0 := Tryd.isAgg0
 z0 := Tryd.sizeOf0
 v0 := Tryd.zeroValue0
 t4 := Tryd.underlying4
 a4 := Tryd.isAgg4
 z4 := Tryd.sizeOf4
 v4 := Tryd.zeroValue4
 t5 := Tryd.underlying5
 a5 := Tryd.isAgg5
 z5 := Tryd.sizeOf5
 v5 := Tryd.zeroValue5
 t9 := Tryd.underlying9
 a9 := Tryd.isAgg9
 z9 := Tryd.sizeOf9
 v9 := Tryd.zeroValue9
 t20 := Tryd.underlying20
 a20 := Tryd.isAgg20
 z20 := Tryd.sizeOf20
 v20 := Tryd.zeroValue20
 t37 := Tryd.underlying50
 a37 := Tryd.isAgg50
 z37 := Tryd.sizeOf50
 v37 := Tryd.zeroValue50
 t70 := Tryd.underlying67
 a70 := Tryd.isAgg67
 z70 := Tryd.sizeOf67
 v70 := Tryd.zeroValue67
 t72 := Tryd.underlying69
 a72 := Tryd.isAgg69
 z72 := Tryd.sizeOf69
 v72 := Tryd.zeroValue69
 t75 := Tryd.underlying71
 a75 := Tryd.isAgg71
 z75 := Tryd.sizeOf71
 v75 := Tryd.zeroValue71
 t164 := Tryd.underlying103
 a164 := Tryd.isAgg103
 z164 := Tryd.sizeOf103
 v164 := Tryd.zeroValue103 }
theorem Tryd.ly169 : Go.Proofs.Lays.n169 Tryd.prog Tryd.ren := {
 mixed := by kernel_rfl
 f169 := Tryd.func46.trans (congrArg some (by kernel_rfl))
 t0 := Tryd.underlying0
 a0 := Tryd.isAgg0
 z0 := Tryd.sizeOf0
 v0 := Tryd.zeroValue0
 t3 := Tryd.underlying3
 a3 := Tryd.isAgg3
 z3 := Tryd.sizeOf3
 v3 := Tryd.zeroValue3
 t9 := Tryd.underlying9
 a9 := Tryd.isAgg9
 z9 := Tryd.sizeOf9
 v9 := Tryd.zeroValue9
 t37 := Tryd.underlying50
 a37 := Tryd.isAgg50
 z37 := Tryd.sizeOf50
 v37 := Tryd.zeroValue50
 t70 := Tryd.underlying67
 a70 := Tryd.isAgg67
 z70 := Tryd.sizeOf67
 v70 := Tryd.zeroValue67
 t72 := Tryd.underlying69
 a72 := Tryd.isAgg69
 z72 := Tryd.sizeOf69
 v72 := Tryd.zeroValue69
 t127 := Tryd.underlying89
 a127 := Tryd.isAgg89
 z127 := Tryd.sizeOf89
 v127 := Tryd.zeroValue89 }
theorem Tryd.ly197 : Go.Proofs.Lays.n197 Tryd.prog Tryd.ren := {
 mixed := by kernel_rfl
 f197 := Tryd.func79.trans (congrArg some (by kernel_rfl))
 f260 := Tryd.func86.trans (congrArg some (by kernel_rfl))
 t0 := Tryd.underlying0
 a0 := Tryd.isAgg0
 z0 := Tryd.sizeOf0
 v0 := Tryd.zeroValue0
 t3 := Tryd.underlying3
 a3 := Tryd.isAgg3
 z3 := Tryd.sizeOf3
 v3 := Tryd.zeroValue3
 t4 := Tryd.underlying4
 a4 := Tryd.isAgg4
 z4 := Tryd.sizeOf4
 v4 := Tryd.zeroValue4
 t5 := Tryd.underlying5
 a5 := Tryd.isAgg5
 z5 := Tryd.sizeOf5
 v5 := Tryd.zeroValue5
 t9 := Tryd.underlying9
 a9 := Tryd.isAgg9
 z9 := Tryd.sizeOf9
 v9 := Tryd.zeroValue9
 t21 := Tryd.underlying21
 a21 := Tryd.isAgg21
 z21 := Tryd.sizeOf21
 v21 := Tryd.zeroValue21
 t46 := Tryd.underlying109
 a46 := Tryd.isAgg109
 z46 := Tryd.sizeOf109
 v46 := Tryd.zeroValue109
 t105 := Tryd.underlying100
 a105 := Tryd.isAgg100
 z105 := Tryd.sizeOf100
 v105 := Tryd.zeroValue100
 t119 := Tryd.underlying108
 a119 := Tryd.isAgg108
 z119 := Tryd.sizeOf108
 t138 := Tryd.underlying111
 a138 := Tryd.isAgg111
 z138 := Tryd.sizeOf111
 v138 := Tryd.zeroValue111
 t139 := Tryd.underlying112
 a139 := Tryd.isAgg112
 z139 := Tryd.sizeOf112
 v139 := Tryd.zeroValue112
 g3 := by kernel_rfl
 g4 := by kernel_rfl }
theorem Tryd.bx : Builder.Extra Tryd.prog Tryd.ren := {
 sizeBuilder := by kernel_rfl
 liesBuilder := by kernel_rfl
 t5 := Tryd.underlying5
 a5 := Tryd.isAgg5
 z5 := Tryd.sizeOf5
 v5 := Tryd.zeroValue5
 infoByte := by kernel_rfl
 cellsByte := by kernel_rfl
 sizeByte := by kernel_rfl
 neB5 := by decide }
end Go.Proofs
end
section
namespace Go.Proofs.YtphmgaijkdflnaaDoor.H
open Go.RowKit
set_option linter.unusedVariables false
set_option linter.unusedSimpArgs false
set_option maxHeartbeats 8000000
set_option maxRecDepth 100000
section
open Go.Proofs.YtphmgaijkdflnaaDoorW.PrintWords Go.Proofs.YtphmgaijkdflnaaDoorW.PrintLast Go.Proofs.YtphmgaijkdflnaaDoorW.PrintMore
open Go.Maps
structure GW (w : World) : Prop where
  pow : Lib.TabIs Tryd.prog w "internal/strconv.uint64pow10" .u64 Lib.pow10Tab
  u8 : Lib.Utf8Tabs 0 1 w
  db : TabAt 4 Lib.deBruijn64tab w
theorem var_below {w W : World} {n : String} {g : Nat} (hg : Tryd.prog.globalNamed n = some g) {x : Array Value} (h : w.var? Tryd.prog n = some x) (hb : Below w.heap.size w W) : W.var? Tryd.prog n = some x := by
  unfold World.var? at h ⊢
  rw [hg] at h ⊢
  simp only [Option.bind_some] at h ⊢
  have hlt : g < w.heap.size := by
    rcases Nat.lt_or_ge g w.heap.size with h' | h'
    · exact h'
    · rw [Array.getElem?_eq_none h'] at h; cases h
  rw [hb.block g hlt]
  exact h
theorem cell_below {w W : World} {a : Addr} {v : Value} (h : w.cell? a = some v) (hb : Below w.heap.size w W) : W.cell? a = some v :=
  (hb.cell (World.block_lt_of_cell? w _ h)).trans h
theorem GW.below {w W : World} (h : GW w) (hb : Below w.heap.size w W) : GW W :=
  ⟨var_below (g := 2) (by kernel_rfl) h.pow hb,
   ⟨fun c hc => cell_below (h.u8.1 c hc) hb, fun i hi => ⟨cell_below (h.u8.2 i hi).1 hb, cell_below (h.u8.2 i hi).2 hb⟩⟩,
   fun j hj => cell_below (h.db j hj) hb⟩
end
section
open Go.Lib
theorem u8types : U8Types Tryd.prog Tryd.ren := { t5 := Tryd.underlying5, t119 := Tryd.underlying108, t138 := Tryd.underlying111, t139 := Tryd.underlying112 }
theorem u8extra : U8Extra Tryd.prog Tryd.ren := { n3 := by kernel_rfl, n4 := by kernel_rfl, y3 := by kernel_rfl, y4 := by kernel_rfl, c5 := by kernel_rfl, c119 := by kernel_rfl, c138 := by kernel_rfl }
theorem tab_of_reads {P : Program} {W : World} {name : String} {k : IntKind} {zs : List Int} {g : Nat} {t e : TypeId} {n : Nat}
  (hg : P.globalNamed name = some g) (hty : (P.globals[g]?).map (·.type) = some t) (ht : P.underlying t = some (.array n e)) (he : P.underlying e = some (.int k)) (hce : P.cellsOf e = 1) (hct : P.cellsOf t = n)
  (h : VarReads P W name (Lib.tabData k zs)) : Lib.TabIs P W name k zs := by
 obtain ⟨g', t', cs, fuel, p, hg', ht', hvar, hd⟩ := h
 obtain rfl := Option.some.inj (hg.symm.trans hg')
 obtain rfl := Option.some.inj (hty.symm.trans ht')
 unfold Lib.TabIs
 rw [hvar, ← Lib.cells_of_tab ht he hce hct hd]
theorem gw_of {W : World} (_hsh : W.ShapedOpen Tryd.prog) (h1 : VarReads Tryd.prog W "internal/strconv.uint64pow10" (Lib.tabData .u64 Lib.pow10Tab)) (h2 : VarReads Tryd.prog W "unicode/utf8.first" Lib.firstData) (h3 : VarReads Tryd.prog W "unicode/utf8.acceptRanges" Lib.acceptData)
  (h4 : VarReads Tryd.prog W "math/bits.deBruijn64tab" (Lib.tabData .u8 ((deBruijn64tab.map fun n : Nat => (n : Int)) : List Int))) : GW W := by
 refine ⟨tab_of_reads (g := 2) (by kernel_rfl) (by kernel_rfl) Tryd.underlying122 Tryd.underlying115 (by kernel_rfl) (by kernel_rfl) h1, utf8Tabs_of_readsT u8types u8extra h2 h3, ?_⟩
 ·intro j hj
  have h := tab_of_reads (g := 4) (by kernel_rfl) (by kernel_rfl) Tryd.underlying128 Tryd.underlying5 (by kernel_rfl) (by kernel_rfl) h4
  have := Lib.TabIs.cell h (g := 4) (by kernel_rfl) j (by simpa using hj)
  rw [this]
  simp [List.getD_eq_getElem?_getD, List.getElem?_map, List.getElem?_eq_getElem hj]
end
structure IStep (X : Nat → Prop) (W W' : World) (X' : Nat → Prop) : Prop where
 os : W'.os = W.os
 tape : W'.tape = W.tape
 output : W'.output = W.output
 size : W.heap.size ≤ W'.heap.size
 block : ∀ k, k < W.heap.size → ¬ X k → W'.heap[k]? = W.heap[k]?
 own : ∀ k, X' k → X k ∨ (W.heap.size ≤ k ∧ k < W'.heap.size)
theorem IStep.refl (X : Nat → Prop) (W : World) : IStep X W W X := ⟨rfl, rfl, rfl, Nat.le_refl _, fun _ _ _ => rfl, fun _ h => .inl h⟩
theorem IStep.trans {X Y Z : Nat → Prop} {A B C : World} (h : IStep X A B Y) (g : IStep Y B C Z) : IStep X A C Z :=
 ⟨g.os.trans h.os, g.tape.trans h.tape, g.output.trans h.output, Nat.le_trans h.size g.size,
  fun k hk hx => (g.block k (Nat.lt_of_lt_of_le hk h.size) (fun hy => by rcases h.own k hy with q | q; exact hx q; omega)).trans (h.block k hk hx),
  fun k hk => by
   rcases g.own k hk with q | ⟨q1, q2⟩
   ·rcases h.own k q with r | ⟨r1, r2⟩
    ·exact .inl r
    ·exact .inr ⟨r1, Nat.lt_of_lt_of_le r2 g.size⟩
   ·exact .inr ⟨Nat.le_trans h.size q1, q2⟩⟩
theorem IStep.of_below {X : Nat → Prop} {W W' : World} (h : Below W.heap.size W W') : IStep X W W' X :=
 ⟨h.os, h.tape, h.output, h.size, fun k hk _ => h.block k hk, fun _ hx => .inl hx⟩
def xnew (X : Nat → Prop) (W W' : World) : Nat → Prop := fun k => X k ∨ (W.heap.size ≤ k ∧ k < W'.heap.size)
theorem IStep.new {X : Nat → Prop} {W W' : World} (h : Below W.heap.size W W') : IStep X W W' (xnew X W W') :=
 ⟨h.os, h.tape, h.output, h.size, fun k hk _ => h.block k hk, fun _ hx => hx⟩
theorem IStep.at {X : Nat → Prop} {W W' : World} {r : Nat} (hx : X r) (h : W.grownBy W' (some r)) : IStep X W W' X :=
 ⟨h.os, h.tape, h.output, h.size, fun k hk hn => h.block k hk (fun e => hn (by cases e; exact hx)), fun _ h => .inl h⟩
theorem grownBy_put (W : World) (l : Nat) (o : Obj) : W.grownBy (W.putObj l o) (some l) :=
 ⟨rfl, rfl, rfl, by simp, fun k _ hk => World.putObj_heap_other (fun e => hk (by rw [e]))⟩
theorem grownBy_set (W : World) (a : Addr) (v : Value) : W.grownBy (W.setCell a v) (some a.block) :=
 ⟨rfl, rfl, rfl, by simp, fun k _ hk => Below.heap_setCell W a v k (fun e => hk (by rw [e]))⟩
def Abides {β : Type} (J : β → (Nat → Prop) → World → Prop) : Prop := ∀ s X W W' X', J s X W → IStep X W W' X' → J s X' W'
theorem IStep.keep {X X' : Nat → Prop} {W W' : World} (h : IStep X W W' X') {k : Nat} {o : Obj} (hk : W.heap[k]? = some o) (hx : ¬ X k) : W'.heap[k]? = some o :=
 (h.block k (Array.getElem?_eq_some_iff.1 hk).1 hx).trans hk
theorem IStep.keepX {X X' : Nat → Prop} {W W' : World} (h : IStep X W W' X') {k : Nat} (hk : k < W.heap.size) (hx : ¬ X k) : ¬ X' k := fun q => by
 rcases h.own k q with r | r
 ·exact hx r
 ·omega
theorem IStep.below {X X' : Nat → Prop} {w W W' : World} {B : Nat} (h : IStep X W W' X') (hb : Below B w W) (hx : ∀ k, X k → B ≤ k) (hB : B ≤ w.heap.size) : Below B w W' :=
 ⟨h.os.trans hb.os, h.tape.trans hb.tape, h.output.trans hb.output, Nat.le_trans hb.size h.size,
  fun k hk => (h.block k (by have := hb.size; omega) (fun q => by have := hx k q; omega)).trans (hb.block k hk)⟩
theorem IStep.ge {X X' : Nat → Prop} {W W' : World} {B : Nat} (h : IStep X W W' X') (hx : ∀ k, X k → B ≤ k) (hB : B ≤ W.heap.size) : ∀ k, X' k → B ≤ k := fun k hk => by
 rcases h.own k hk with q | q
 ·exact hx k q
 ·omega
structure Keeps (Y : Nat → Prop) (W W' : World) : Prop where
 size : W.heap.size ≤ W'.heap.size
 same : ∀ k, Y k → k < W.heap.size → W'.heap[k]? = W.heap[k]?
theorem Keeps.refl (Y : Nat → Prop) (W : World) : Keeps Y W W := ⟨Nat.le_refl _, fun _ _ _ => rfl⟩
theorem Keeps.trans {Y : Nat → Prop} {A B C : World} (h : Keeps Y A B) (g : Keeps Y B C) : Keeps Y A C :=
 ⟨Nat.le_trans h.size g.size, fun k hy hk => (g.same k hy (Nat.lt_of_lt_of_le hk h.size)).trans (h.same k hy hk)⟩
theorem Keeps.of_below {Y : Nat → Prop} {W W' : World} (h : Below W.heap.size W W') : Keeps Y W W' := ⟨h.size, fun k _ hk => h.block k hk⟩
theorem Keeps.of_grown {Y : Nat → Prop} {W W' : World} {r : Option Nat} (h : W.grownBy W' r) (hr : ∀ k, r = some k → ¬ Y k) : Keeps Y W W' :=
 ⟨h.size, fun k hy hk => h.block k hk (fun e => hr k e.symm hy)⟩
theorem Keeps.set {Y : Nat → Prop} (W : World) (a : Addr) (v : Value) (h : ¬ Y a.block) : Keeps Y W (W.setCell a v) := .of_grown (grownBy_set W a v) (fun k e => by cases e; exact h)
theorem Keeps.sub {Y Z : Nat → Prop} {W W' : World} (h : Keeps Y W W') (hz : ∀ k, Z k → Y k) : Keeps Z W W' := ⟨h.size, fun k hk => h.same k (hz k hk)⟩
def Told {α : Type} (Y X : Nat → Prop) (J Jx : List α → (Nat → Prop) → World → Prop) (ys : List α) (W : World) (e : Ending) (W' : World) : Prop :=
 Keeps Y W W' ∧ ((e = .returned (.bool true) ∧ J ys X W') ∨ (e = .returned (.bool false) ∧ Jx ys X W'))
def Ended {α : Type} (J Jx : List α → (Nat → Prop) → World → Prop) (L : List α) (e : Ending) (W' : World) : Prop :=
 (∃ v, e = .returned v) ∧ ((∃ X, (∀ k, X k → k < W'.heap.size) ∧ J L X W') ∨ (∃ pre X, pre <+: L ∧ Jx pre X W'))
def Gives {α : Type} (P : Program) (gf : Nat) (lb : Array Value) (encs : α → Array Value) (K : Nat → Prop) (L : List α) (w0 : World) : Prop :=
 (∀ k, K k → k < w0.heap.size) ∧
 ∀ (l : Nat) (J Jx : List α → (Nat → Prop) → World → Prop) (W : World), Below w0.heap.size w0 W → Abides J → Abides Jx →
  (∀ pre x post X W', L = pre ++ x :: post → J pre X W' → (∀ k, X k → W.heap.size ≤ k ∧ k < W'.heap.size) → W.heap.size ≤ W'.heap.size →
   YieldAt Fence.wide 0 P l (encs x) W' (Told (fun k => X k ∨ K k) X J Jx (pre ++ [x]) W')) →
  J [] (fun _ => False) W →
  CallsIn Fence.wide 0 P gf (#[.func (.yield l) #[] #[]] ++ lb) W (Ended J Jx L)
def bodyEnds {α : Type} (Y X : Nat → Prop) (I : List α → (Nat → Prop) → World → Prop) (Ix : Code → List α → (Nat → Prop) → World → Prop) (ys : List α) (W : World) : Exit → Act → World → Prop
 | .normal, _, W' => Keeps Y W W' ∧ I ys X W'
 | .ret, _, W' => Keeps Y W W' ∧ Ix .ret ys X W'
 | .exit id, _, W' => Keeps Y W W' ∧ Ix (.exit id) ys X W'
 | .goto t, _, W' => Keeps Y W W' ∧ Ix (.goto t) ys X W'
 | .panic _, _, _ => False
 | .outgrown, _, _ => False
theorem wp_range {α : Type} {P : Program} {g : Operand} {ps : Array Tmp} {assign body : Code} {Q : Exit → Act → World → Prop} {a : Act} {w : World}
  {gf : Nat} {lb : Array Value} (hg : a.eval g = .func (.func gf) #[] lb) (eg : ∀ args w, (callFunc gf args).run P w = .ok (.enter gf args) w)
  {encs : α → Array Value} {K : Nat → Prop} {L : List α} {w0 : World} (hseq : Gives P gf lb encs K L w0) (hb0 : Below w0.heap.size w0 w) (hps : ∀ x, (encs x).size = ps.size)
  (I : List α → (Nat → Prop) → World → Prop) (Ix : Code → List α → (Nat → Prop) → World → Prop) (M : List α → α → Act → (Nat → Prop) → World → Prop)
  (hI : Abides I) (hIx : ∀ c, Abides (Ix c)) (hM : ∀ pre x a₁, Abides (fun (_ : Unit) => M pre x a₁)) (h0 : I [] (fun _ => False) w)
  (hassign : ∀ (l : Nat) (pre : List α) (x : α) (post : List α) (X : Nat → Prop) (W : World), L = pre ++ x :: post → I pre X W → (∀ k, X k → w.heap.size ≤ k ∧ k < W.heap.size) →
   assign.wpIn (Fence.wide.inRound l) 0 P (Exit.then (fun a₁ W₁ => Keeps (fun k => X k ∨ K k) W W₁ ∧ M pre x a₁ X W₁) (fun _ _ _ => False)) { tmps := (ps.zip (encs x)).foldl (fun t (p, v) => t.setIfInBounds p v) a.tmps, defers := [] } W)
  (hbody : ∀ (l : Nat) (pre : List α) (x : α) (post : List α) (a₁ : Act) (X : Nat → Prop) (W : World), L = pre ++ x :: post → M pre x a₁ X W → (∀ k, X k → w.heap.size ≤ k ∧ k < W.heap.size) →
   body.wpIn (Fence.wide.inRound l) 0 P (bodyEnds (fun k => X k ∨ K k) X I Ix (pre ++ [x]) W) a₁ W)
  (hdone : ∀ (X : Nat → Prop) (W : World), I L X W → X w.heap.size → (∀ k, X k → w.heap.size ≤ k ∧ k < W.heap.size) → W.heap[w.heap.size]? = some (.deferred (some [])) → Q .normal { a with defers := { target := .collected w.heap.size, args := #[] } :: a.defers } W)
  (hstop : ∀ (c : Code) (pre : List α) (X : Nat → Prop) (W : World), pre <+: L → Ix c pre X W → X w.heap.size → W.heap[w.heap.size]? = some (.deferred (some [])) → c.wpIn Fence.wide 0 P Q { a with defers := { target := .collected w.heap.size, args := #[] } :: a.defers } W) :
  (Code.rangeFunc g ps assign body).wpIn Fence.wide 0 P Q a w := by
 obtain ⟨hK, hseq⟩ := hseq
 refine wpIn_rangeFunc ?_
 intro fn hfn
 obtain ⟨rec, hrec⟩ : ∃ rec : LoopState → Option Code → Loop, rec = fun st pe => { state := st, pending := pe, fn, tmps := a.tmps, params := ps, assign, body, defers := w.heap.size } := ⟨_, rfl⟩
 obtain ⟨W1, hW1⟩ : ∃ W1, (w.alloc (.deferred (some []))).alloc (.loop (rec .ready none)) = W1 := ⟨_, rfl⟩
 have hL1 : W1.heap[w.heap.size + 1]? = some (.loop (rec .ready none)) := by
  rw [← hW1]; have := World.alloc_heap_new (w.alloc (.deferred (some []))) (.loop (rec .ready none)); rwa [World.size_alloc] at this
 have hD1 : W1.heap[w.heap.size]? = some (.deferred (some [])) := by
  rw [← hW1]; exact (Below.heap_alloc _ _ _ (by simp)).trans (World.alloc_heap_new w _)
 have hs1 : W1.heap.size = w.heap.size + 2 := by rw [← hW1]; simp
 have hbw : Below w.heap.size w W1 := by rw [← hW1]; exact ((Below.refl _ w).alloc (Nat.le_refl _) _).alloc (by simp) _
 have hb1 : Below w0.heap.size w0 W1 := hb0.trans (hbw.mono hb0.size)
 obtain ⟨Z, hZ⟩ : ∃ Z : (Nat → Prop) → Nat → Prop, Z = fun X k => X k ∨ k = w.heap.size ∨ k = w.heap.size + 1 := ⟨_, rfl⟩
 have hI1 : I [] (Z fun _ => False) W1 := hI _ _ _ _ _ h0 ⟨hbw.os, hbw.tape, hbw.output, hbw.size, fun k hk _ => hbw.block k hk, fun k hk => .inr (by rw [hZ] at hk; simp at hk; omega)⟩
 refine ⟨w.heap.size + 1, [{ target := .collected w.heap.size, args := #[] }], W1, { target := .fn (.func gf) lb, args := #[.func (.yield (w.heap.size + 1)) #[] #[]] }, W1, gf,
  #[.func (.yield (w.heap.size + 1)) #[] #[]] ++ lb, W1, ?_, ?_, fun _ _ => trivial, ?_, (fun h => by cases h), ?_⟩
 ·rw [← hW1, hrec]; exact run_enterLoop_outer _ _ _ _ _
 ·simp only [resolve, hg]
  simp [go_sem]
 ·simp [invoke, go_sem, eg]
 have zstep : ∀ {X X' : Nat → Prop} {A B : World}, IStep X A B X' → IStep (Z X) A B (Z X') := fun {X X' A B} h => ⟨h.os, h.tape, h.output, h.size,
  fun k hk hn => h.block k hk (fun q => hn (by rw [hZ]; exact .inl q)), fun k hk => by
   rw [hZ] at hk ⊢
   rcases hk with q | q
   ·rcases h.own k q with r | r
    ·exact .inl (.inl r)
    ·exact .inr r
   ·exact .inl (.inr q)⟩
 have zput : ∀ {X : Nat → Prop} (A : World) (o : Obj), IStep (Z X) A (A.putObj (w.heap.size + 1) o) (Z X) := fun A o => IStep.at (by rw [hZ]; exact .inr (.inr rfl)) (grownBy_put A _ o)
 refine (hseq (w.heap.size + 1)
  (fun pre X W => I pre (Z X) W ∧ (¬ X w.heap.size ∧ ¬ X (w.heap.size + 1)) ∧ W.heap[w.heap.size + 1]? = some (.loop (rec .ready none)) ∧ W.heap[w.heap.size]? = some (.deferred (some [])))
  (fun pre X W => ∃ c, Ix c pre (Z X) W ∧ (¬ X w.heap.size ∧ ¬ X (w.heap.size + 1)) ∧ W.heap[w.heap.size + 1]? = some (.loop (rec .done (some c))) ∧ W.heap[w.heap.size]? = some (.deferred (some [])))
  W1 hb1 ?_ ?_ ?_ ⟨hI1, ⟨id, id⟩, hL1, hD1⟩).mono ?_
 ·rintro s X A B X' ⟨hi, ⟨hx1, hx2⟩, hl, hd⟩ hst
  exact ⟨hI _ _ _ _ _ hi (zstep hst), ⟨hst.keepX (Array.getElem?_eq_some_iff.1 hd).1 hx1, hst.keepX (Array.getElem?_eq_some_iff.1 hl).1 hx2⟩, hst.keep hl hx2, hst.keep hd hx1⟩
 ·rintro s X A B X' ⟨c, hi, ⟨hx1, hx2⟩, hl, hd⟩ hst
  exact ⟨c, hIx c _ _ _ _ _ hi (zstep hst), ⟨hst.keepX (Array.getElem?_eq_some_iff.1 hd).1 hx1, hst.keepX (Array.getElem?_eq_some_iff.1 hl).1 hx2⟩, hst.keep hl hx2, hst.keep hd hx1⟩
 ·
  rintro pre x post X W hL ⟨hi, ⟨hx1, hx2⟩, hl, hd⟩ hXb hWs
  have hlt : w.heap.size + 1 < W.heap.size := (Array.getElem?_eq_some_iff.1 hl).1
  have hy := run_yield (P := P) (args := encs x) hl (by rw [hrec]; exact hps x)
  rw [hrec] at hy
  have hZb : ∀ k, Z X k → w.heap.size ≤ k ∧ k < W.heap.size := fun k hk => by
   rw [hZ] at hk
   rcases hk with q | q | q
   ·have := hXb k q; omega
   ·omega
   ·omega
  have hKl : ¬ K (w.heap.size + 1) := fun q => by have := hK _ q; have := hb0.size; omega
  have hKd : ¬ K w.heap.size := fun q => by have := hK _ q; have := hb0.size; omega
  refine ⟨fn, _, assign, body, hy, roundIn_of_wpIn trivial (wpIn_mono (hassign _ pre x post (Z X) W hL hi hZb) ?_)⟩
  rintro e a₁ W₁ hp
  cases e with
  | normal =>
   obtain ⟨hk1, hm1⟩ := hp
   have hl1 : W₁.heap[w.heap.size + 1]? = some (.loop (rec .ready none)) := (hk1.same _ (.inl (by rw [hZ]; exact .inr (.inr rfl))) hlt).trans hl
   have hlt1 := Nat.lt_of_lt_of_le hlt hk1.size
   refine ⟨_, run_beginRound hl1 (by rw [hrec]), ?_⟩
   have hm2 := hM pre x a₁ () _ _ _ _ hm1 (zput W₁ (.loop { rec .ready none with state := .busy }))
   have hl2 : (W₁.putObj (w.heap.size + 1) (.loop { rec .ready none with state := .busy })).heap[w.heap.size + 1]? = some (.loop { rec .ready none with state := .busy }) := World.putObj_heap_same hlt1
   have hd1 : W₁.heap[w.heap.size]? = some (.deferred (some [])) := (hk1.same _ (.inl (by rw [hZ]; exact .inr (.inl rfl))) (by omega)).trans hd
   have hd2 : (W₁.putObj (w.heap.size + 1) (.loop { rec .ready none with state := .busy })).heap[w.heap.size]? = some (.deferred (some [])) := (World.putObj_heap_other (by omega)).trans hd1
   refine wpIn_mono (hbody _ pre x post a₁ (Z X) _ hL hm2 (fun k hk => ⟨(hZb k hk).1, by have := (hZb k hk).2; have := hk1.size; simp; omega⟩)) ?_
   have fin : ∀ (jump : Option Code) (W3 : World), Keeps (fun k => Z X k ∨ K k) (W₁.putObj (w.heap.size + 1) (.loop { rec .ready none with state := .busy })) W3 →
     (Instr.endRound (w.heap.size + 1) jump).run P W3 = .ok (.bool jump.isNone) (W3.putObj (w.heap.size + 1) (.loop (rec (if jump.isNone then .ready else .done) jump))) ∧
     (W3.putObj (w.heap.size + 1) (.loop (rec (if jump.isNone then .ready else .done) jump))).heap[w.heap.size + 1]? = some (.loop (rec (if jump.isNone then .ready else .done) jump)) ∧
     (W3.putObj (w.heap.size + 1) (.loop (rec (if jump.isNone then .ready else .done) jump))).heap[w.heap.size]? = some (.deferred (some [])) ∧
     Keeps (fun k => X k ∨ K k) W (W3.putObj (w.heap.size + 1) (.loop (rec (if jump.isNone then .ready else .done) jump))) := fun jump W3 hk3 => by
    have hl3 := (hk3.same (w.heap.size + 1) (.inl (by rw [hZ]; exact .inr (.inr rfl))) (by simp; omega)).trans hl2
    have hd3 := (hk3.same w.heap.size (.inl (by rw [hZ]; exact .inr (.inl rfl))) (by simp; omega)).trans hd2
    have := run_endRound (P := P) jump hl3
    rw [hrec] at this ⊢
    refine ⟨this, World.putObj_heap_same (Array.getElem?_eq_some_iff.1 hl3).1, (World.putObj_heap_other (by omega)).trans hd3, ?_⟩
    have hne : ∀ k, (X k ∨ K k) → k ≠ w.heap.size + 1 := fun k hk e => by
     subst e
     rcases hk with q | q
     ·exact hx2 q
     ·exact hKl q
    have hsub : ∀ k, (X k ∨ K k) → (Z X k ∨ K k) := fun k hk => hk.imp (fun q => by rw [hZ]; exact .inl q) id
    refine (hk1.sub hsub).trans (Keeps.trans (.of_grown (grownBy_put W₁ _ _) (fun k e hk => hne k hk (by cases e; rfl))) (Keeps.trans (hk3.sub hsub) (.of_grown (grownBy_put W3 _ _) (fun k e hk => hne k hk (by cases e; rfl)))))
   rintro e a3 W3 hp
   cases e with
   | normal =>
    obtain ⟨hk3, hi3⟩ := hp
    obtain ⟨hr, hl4, hd4, hk4⟩ := fin none W3 hk3
    exact ⟨_, _, hr, hk4, .inl ⟨rfl, hI _ _ _ _ _ hi3 (zput W3 _), ⟨hx1, hx2⟩, hl4, hd4⟩⟩
   | ret =>
    obtain ⟨hk3, hi3⟩ := hp
    obtain ⟨hr, hl4, hd4, hk4⟩ := fin (some .ret) W3 hk3
    exact ⟨_, _, hr, hk4, .inr ⟨rfl, .ret, hIx _ _ _ _ _ _ hi3 (zput W3 _), ⟨hx1, hx2⟩, hl4, hd4⟩⟩
   | exit id =>
    obtain ⟨hk3, hi3⟩ := hp
    obtain ⟨hr, hl4, hd4, hk4⟩ := fin (some (.exit id)) W3 hk3
    exact ⟨_, _, hr, hk4, .inr ⟨rfl, .exit id, hIx _ _ _ _ _ _ hi3 (zput W3 _), ⟨hx1, hx2⟩, hl4, hd4⟩⟩
   | goto t =>
    obtain ⟨hk3, hi3⟩ := hp
    obtain ⟨hr, hl4, hd4, hk4⟩ := fin (some (.goto t)) W3 hk3
    exact ⟨_, _, hr, hk4, .inr ⟨rfl, .goto t, hIx _ _ _ _ _ _ hi3 (zput W3 _), ⟨hx1, hx2⟩, hl4, hd4⟩⟩
   | panic ch => exact hp.elim
   | outgrown => exact hp.elim
  | ret => exact hp.elim
  | exit id => exact hp.elim
  | goto t => exact hp.elim
  | panic ch => exact hp.elim
  | outgrown => exact hp.elim
 ·
  rintro e W2 ⟨⟨v, rfl⟩, (⟨X, hXb, hi, ⟨hx1, hx2⟩, hl, hd⟩ | ⟨pre, X, hpre, c, hi, ⟨hx1, hx2⟩, hl, hd⟩)⟩
  ·refine ⟨none, _, by have := run_endLoop (P := P) hl (by rw [hrec]; simp); rw [hrec] at this; exact this, hdone (fun k => Z X k ∧ w.heap.size ≤ k ∧ k < W2.heap.size) _ ?_ ⟨by rw [hZ]; exact .inr (.inl rfl), Nat.le_refl _, (Array.getElem?_eq_some_iff.1 hd).1⟩ (fun k hk => by simpa using hk.2) ((World.putObj_heap_other (by omega)).trans hd)⟩
   have h2 : ∀ o, I L (fun k => Z X k ∧ w.heap.size ≤ k ∧ k < W2.heap.size) (W2.putObj (w.heap.size + 1) o) := fun o => hI _ _ _ _ _ (hI _ _ _ _ _ hi (zput W2 o)) ⟨rfl, rfl, rfl, Nat.le_refl _, fun _ _ _ => rfl, fun k hk => .inl hk.1⟩
   exact h2 _
  ·exact ⟨some c, _, by have := run_endLoop (P := P) hl (by rw [hrec]; simp); rw [hrec] at this; exact this, hstop c pre (Z X) _ hpre (hIx c _ _ _ _ _ hi (zput W2 _)) (by rw [hZ]; exact .inr (.inl rfl)) ((World.putObj_heap_other (by omega)).trans hd)⟩
section
open Go.Shelf Go.Proofs.YtphmgaijkdflnaaDoorW.PrintWords Go.Proofs.YtphmgaijkdflnaaDoorW.PrintLast Go.Proofs.YtphmgaijkdflnaaDoorW.PrintMore
open Go.Maps
attribute [local go_sem] Oper.semAt_some
theorem info26 : (Tryd.prog.info? 26).map (fun i => (i.zero, i.size, i.bytes)) = some (some (.agg #[(.int .i64 0), (.int .i64 0), (.int .i64 0), (.int .i64 0), (.slice none 0 0), (.string ⟨#[]⟩), (.slice none 0 0)]), 7, 96) := by kernel_rfl
theorem k46_heap : Kd.Heap k46 := Kd.heap_iso _ (Kd.heap_pair (Kd.heap_int .i64) (Kd.heap_pair (Kd.heap_int .i64) Kd.heap_string))
theorem k26_heap : Kd.Heap k26 := Kd.heap_fix (fun _ h_ => Kd.heap_iso _ (Kd.heap_pair (Kd.heap_int .i64) (Kd.heap_pair (Kd.heap_int .i64) (Kd.heap_pair (Kd.heap_int .i64) (Kd.heap_pair (Kd.heap_int .i64) (Kd.heap_pair (Kd.heap_slice 46 k46_heap) (Kd.heap_pair Kd.heap_string (Kd.heap_slice 26 h_))))))))
structure NodeE where
 x : S26
 A4 : Option Addr
 c4 : Nat
 A6 : Option Addr
 c6 : Nat
def NodeE.a (e : NodeE) : Array Value := #[.int .i64 e.x.f0, .int .i64 e.x.f1, .int .i64 e.x.f2, .int .i64 e.x.f3, .slice e.A4 e.x.f4.length e.c4, .string e.x.f5, .slice e.A6 e.x.f6.length e.c6]
def NodeE.v (e : NodeE) : Value := .agg #[.int .i64 e.x.f0, .int .i64 e.x.f1, .int .i64 e.x.f2, .int .i64 e.x.f3, .slice e.A4 e.x.f4.length e.c4, .string e.x.f5, .slice e.A6 e.x.f6.length e.c6]
def encNode (e : NodeE) : Array Value := #[e.v]
structure NodeE.Ok (wt : World) (e : NodeE) : Prop where
 l4 : e.x.f4.length ≤ e.c4
 g4 : Kd.C k46 wt e.A4 e.x.f4.length e.x.f4
 l6 : e.x.f6.length ≤ e.c6
 g6 : Kd.C k26 wt e.A6 e.x.f6.length e.x.f6
theorem NodeE.Ok.step {wt W : World} {e : NodeE} (h : e.Ok wt) (hb : ∀ k, k < wt.heap.size → W.heap[k]? = wt.heap[k]?) : e.Ok W := ⟨h.l4, k46_heap.C hb h.g4, h.l6, k26_heap.C hb h.g6⟩
mutual
def preN : S26 → List S26
 | ⟨f0, f1, f2, f3, f4, f5, ks⟩ => ⟨f0, f1, f2, f3, f4, f5, ks⟩ :: preL ks
def preL : List S26 → List S26
 | [] => []
 | k :: r => preN k ++ preL r
end
theorem preN_eq (x : S26) : preN x = x :: preL x.f6 := by cases x; rfl
theorem preL_flat (l : List S26) : preL l = (l.map preN).flatten := by
 induction l with
 | nil => rfl
 | cons k r ih => simp [preL, ih]
structure VInv (wt wi : World) (l yb vb : Nat) (X : Nat → Prop) (W : World) : Prop where
 tree : ∀ k, k < wt.heap.size → W.heap[k]? = wt.heap[k]?
 hy : W.heap[yb]? = some (.cells #[.func (.yield l) #[] #[]] 33 (0, 0))
 hv : W.heap[vb]? = some (.cells #[.func (.func 50) #[] #[.pointer (some ⟨yb, 0, none⟩), .pointer (some ⟨vb, 0, none⟩)]] 33 (0, 0))
 xy : X yb
 xv : X vb
 bound : ∀ k, X k → wi.heap.size ≤ k ∧ k < W.heap.size
 size : wi.heap.size ≤ W.heap.size
 wtw : wt.heap.size ≤ W.heap.size
theorem VInv.keeps {wt wi : World} {l yb vb : Nat} {X K : Nat → Prop} {W W' : World} (h : VInv wt wi l yb vb X W) (hK : ∀ k, k < wt.heap.size → K k) (hk : Keeps (fun k => X k ∨ K k) W W') : VInv wt wi l yb vb X W' :=
 ⟨fun k q => (hk.same k (.inr (hK k q)) (Nat.lt_of_lt_of_le q h.wtw)).trans (h.tree k q), (hk.same yb (.inl h.xy) (h.bound yb h.xy).2).trans h.hy, (hk.same vb (.inl h.xv) (h.bound vb h.xv).2).trans h.hv, h.xy, h.xv,
  fun k q => ⟨(h.bound k q).1, Nat.lt_of_lt_of_le (h.bound k q).2 hk.size⟩, Nat.le_trans h.size hk.size, Nat.le_trans h.wtw hk.size⟩
theorem VInv.alloc {wt wi : World} {l yb vb : Nat} {X : Nat → Prop} {W W' : World} (h : VInv wt wi l yb vb X W) (hb : Below W.heap.size W W') : VInv wt wi l yb vb (xnew X W W') W' :=
 ⟨fun k q => (hb.block k (Nat.lt_of_lt_of_le q h.wtw)).trans (h.tree k q), (hb.block yb (h.bound yb h.xy).2).trans h.hy, (hb.block vb (h.bound vb h.xv).2).trans h.hv, .inl h.xy, .inl h.xv,
  fun k q => by
   have := hb.size
   have := h.size
   rcases q with q | q
   ·have := h.bound k q; omega
   ·omega, Nat.le_trans h.size hb.size, Nat.le_trans h.wtw hb.size⟩
def Visits (wt : World) (K : Nat → Prop) (e : NodeE) (L : List NodeE) : Prop :=
 ∀ (l yb vb : Nat) (wi : World) (Tot : List NodeE) (J Jx : List NodeE → (Nat → Prop) → World → Prop), Abides J →
  (∀ pre x post X W', Tot = pre ++ x :: post → J pre X W' → (∀ k, X k → wi.heap.size ≤ k ∧ k < W'.heap.size) → wi.heap.size ≤ W'.heap.size →
   YieldAt Fence.wide 0 Tryd.prog l (encNode x) W' (Told (fun k => X k ∨ K k) X J Jx (pre ++ [x]) W')) →
  ∀ (pre0 post0 : List NodeE) (X : Nat → Prop) (W : World), Tot = pre0 ++ (L ++ post0) → J pre0 X W → VInv wt wi l yb vb X W →
   CallsIn Fence.wide 0 Tryd.prog 50 #[e.v, .pointer (some ⟨yb, 0, none⟩), .pointer (some ⟨vb, 0, none⟩)] W fun r W' =>
    (r = .returned (.bool true) ∧ ∃ X', J (pre0 ++ L) X' W' ∧ VInv wt wi l yb vb X' W') ∨ (r = .returned (.bool false) ∧ ∃ pre X', pre <+: Tot ∧ Jx pre X' W')
theorem kid_at {wt : World} {e : NodeE} (h : e.Ok wt) (i : Nat) (hi : i < e.x.f6.length) : ∃ (ad : Addr) (d : NodeE), e.A6 = some ad ∧ d.x = e.x.f6[i] ∧ d.Ok wt ∧ ∀ j u, d.a[j]? = some u → wt.cell? (ad.add (i * 7 + j)) = some u := by
 obtain ⟨ad, c, e1, _, hK, hc⟩ := Kd.C_get h.g6 z26 (i : Int) (by omega) (by omega)
 obtain ⟨A4, c4, A6, c6, rfl, l4, g4, l6, g6⟩ := k26_open hK
 have hx : e.x.f6.getD ((i : Int)).toNat z26 = e.x.f6[i] := by simp [List.getD_eq_getElem?_getD, hi]
 rw [hx] at hc l4 g4 l6 g6
 refine ⟨ad, ⟨e.x.f6[i], A4, c4, A6, c6⟩, e1, rfl, ⟨l4, g4, l6, g6⟩, fun j u hu => ?_⟩
 refine hc j u ?_
 simpa [NodeE.a] using hu
end
section
open Go.Shelf Go.Proofs.YtphmgaijkdflnaaDoorW.PrintWords Go.Proofs.YtphmgaijkdflnaaDoorW.PrintLast Go.Proofs.YtphmgaijkdflnaaDoorW.PrintMore
open Go.Maps
attribute [local go_sem] Oper.semAt_some
def partsOf (p : Nat → NodeE × List NodeE) (i : Nat) : List NodeE := ((List.range i).map (fun j => (p j).2)).flatten
theorem partsOf_succ (p : Nat → NodeE × List NodeE) (i : Nat) : partsOf p (i + 1) = partsOf p i ++ (p i).2 := by simp [partsOf, List.range_succ]
theorem partsOf_split (p : Nat → NodeE × List NodeE) (m : Nat) : ∀ d, ∃ rest, partsOf p (m + d) = partsOf p m ++ rest
 | 0 => ⟨[], by simp⟩
 | d + 1 => by
  obtain ⟨r, hr⟩ := partsOf_split p m d
  exact ⟨r ++ (p (m + d)).2, by rw [← Nat.add_assoc, partsOf_succ, hr, List.append_assoc]⟩
theorem visit_walk (wt : World) (K : Nat → Prop) (hK : ∀ k, k < wt.heap.size → K k) (e : NodeE) (he : e.Ok wt) (p : Nat → NodeE × List NodeE)
  (hp : ∀ i (hi : i < e.x.f6.length), (p i).1.x = e.x.f6[i] ∧ (p i).1.Ok wt ∧ (∀ ad, e.A6 = some ad → ∀ j u, (p i).1.a[j]? = some u → wt.cell? (ad.add (i * 7 + j)) = some u) ∧ Visits wt K (p i).1 (p i).2) :
  Visits wt K e (e :: partsOf p e.x.f6.length) := by
 obtain ⟨x, A4, c4, A6, c6⟩ := e
 intro l yb vb wi Tot J Jx hJ hY pre0 post0 X W hT h0 hV
 dsimp only at hp
 have hn : x.f6.length ≤ 9223372036854775807 := he.g6.2.1
 refine callsIn_of_wp Tryd.func50 rfl trivial ?_ rfl
 simp only [NodeE.v, Tryd.ntmps50, List.size_toArray, List.length_cons, List.length_nil, Nat.reduceAdd, Nat.reduceSub, Array.replicate_succ, Array.replicate_zero, List.push_toArray, List.append_toArray, List.nil_append, List.cons_append]
 have hcy : W.cell? ⟨yb, 0, none⟩ = some (.func (.yield l) #[] #[]) := (blk_cell hV.hy 0).trans rfl
 have hcv : W.cell? ⟨vb, 0, none⟩ = some (.func (.func 50) #[] #[.pointer (some ⟨yb, 0, none⟩), .pointer (some ⟨vb, 0, none⟩)]) := (blk_cell hV.hv 0).trans rfl
 have hyl : yb < W.heap.size := (hV.bound yb hV.xy).2
 have hvl : vb < W.heap.size := (hV.bound vb hV.xv).2
 have hyn : yb ≠ W.heap.size := Nat.ne_of_lt hyl
 have hvn : vb ≠ W.heap.size := Nat.ne_of_lt hvl
 have hB1 : Below W.heap.size W (W.alloc (.cells #[.int .i64 x.f0, .int .i64 x.f1, .int .i64 x.f2, .int .i64 x.f3, .slice A4 x.f4.length c4, .string x.f5, .slice A6 x.f6.length c6] 26)) := below_alloc (Below.refl _ _) _
 have hV1 := hV.alloc hB1
 have hJ1 := hJ _ _ _ _ _ h0 (IStep.new hB1)
 obtain ⟨fn, tmps, assign, body, hy, hR⟩ := hY pre0 ⟨x, A4, c4, A6, c6⟩ (partsOf p x.f6.length ++ post0) _ _ (by rw [hT]; rfl) hJ1 hV1.bound hV1.size
 have HV1 := Aside0.mk hV1
 have HT := Aside0.mk hT
 have HP := Aside0.mk hp
 clear hV hV1 hJ1 h0 hT hp hB1
 dsimp only [encNode, NodeE.v] at hy
 gi_wp2
 refine ⟨rfl, hR.mono ?_⟩
 rintro r W3 ⟨hk, (⟨rfl, hJ3⟩ | ⟨rfl, hJx3⟩)⟩
 ·have hb3 := (hk.same W.heap.size (.inl (.inr ⟨Nat.le_refl _, (HV1.out.bound W.heap.size (.inr ⟨Nat.le_refl _, by simp⟩)).2⟩)) (by simp)).trans (blk_new W _)
  have hV3 := HV1.out.keeps hK hk
  have c3 : W3.cell? ⟨W.heap.size, 6, none⟩ = some (.slice A6 x.f6.length c6) := (blk_cell hb3 6).trans rfl
  have HV3 := Aside0.mk hV3
  have HJ3 := Aside0.mk hJ3
  clear hb3 hV3 hJ3
  gi_wp2
  gi_loopw [14] (fun v14 wr => ∃ (i : Nat) (X' : Nat → Prop), v14 = .int .i64 (i : Int) ∧ i ≤ x.f6.length ∧ J (pre0 ++ (⟨x, A4, c4, A6, c6⟩ :: partsOf p i)) X' wr ∧ VInv wt wi l yb vb X' wr) (fun v14 _ => match v14 with | .int _ z => x.f6.length - z.toNat | _ => 0)
  case atStart => exact ⟨0, _, rfl, Nat.zero_le _, HJ3.out, HV3.out⟩
  case round =>
   clear c3 HV3 HJ3 HV1
   obtain ⟨i, X', rfl, hi, hj, hv⟩ := hrel
   by_cases hlt : i < x.f6.length
   ·have hlt2 : decide ((i : Int) < (x.f6.length : Int)) = true := decide_eq_true (by omega)
    obtain ⟨hx, hok, hcell, hvis⟩ := HP.out i hlt
    obtain ⟨ad, _, e1, _, _, _⟩ := kid_at he i hlt
    obtain rfl : A6 = some ad := e1
    have hc := hcell ad rfl
    obtain ⟨⟨x2, B4, d4, B6, d6⟩, hd⟩ : ∃ d, (p i).1 = d := ⟨_, rfl⟩
    rw [hd] at hc hok hvis
    have hi2 : ((i : Int)).toNat = i := rfl
    have q0 : wr.cell? (ad.add (i * 7)) = some (.int .i64 x2.f0) := Kd.cell_heap hv.tree (hc 0 _ rfl)
    have q1 : wr.cell? ⟨(ad.add (i * 7)).block, (ad.add (i * 7)).off + 1, none⟩ = some (.int .i64 x2.f1) := by rw [← add_field _ _ 1 (by omega)]; exact Kd.cell_heap hv.tree (hc 1 _ rfl)
    have q2 : wr.cell? ⟨(ad.add (i * 7)).block, (ad.add (i * 7)).off + 2, none⟩ = some (.int .i64 x2.f2) := by rw [← add_field _ _ 2 (by omega)]; exact Kd.cell_heap hv.tree (hc 2 _ rfl)
    have q3 : wr.cell? ⟨(ad.add (i * 7)).block, (ad.add (i * 7)).off + 3, none⟩ = some (.int .i64 x2.f3) := by rw [← add_field _ _ 3 (by omega)]; exact Kd.cell_heap hv.tree (hc 3 _ rfl)
    have q4 : wr.cell? ⟨(ad.add (i * 7)).block, (ad.add (i * 7)).off + 4, none⟩ = some (.slice B4 x2.f4.length d4) := by rw [← add_field _ _ 4 (by omega)]; exact Kd.cell_heap hv.tree (hc 4 _ rfl)
    have q5 : wr.cell? ⟨(ad.add (i * 7)).block, (ad.add (i * 7)).off + 5, none⟩ = some (.string x2.f5) := by rw [← add_field _ _ 5 (by omega)]; exact Kd.cell_heap hv.tree (hc 5 _ rfl)
    have q6 : wr.cell? ⟨(ad.add (i * 7)).block, (ad.add (i * 7)).off + 6, none⟩ = some (.slice B6 x2.f6.length d6) := by rw [← add_field _ _ 6 (by omega)]; exact Kd.cell_heap hv.tree (hc 6 _ rfl)
    have z1 : wr.cell? ⟨vb, 0, none⟩ = some (.func (.func 50) #[] #[.pointer (some ⟨yb, 0, none⟩), .pointer (some ⟨vb, 0, none⟩)]) := (blk_cell hv.hv 0).trans rfl
    have z2 : vb < wr.heap.size := (hv.bound vb hv.xv).2
    have z3 : vb ≠ wr.heap.size := Nat.ne_of_lt z2
    have HJ := Aside0.mk hj
    have HV := Aside0.mk hv
    have HVIS := Aside0.mk hvis
    have HI := Aside0.mk hi
    have HN := Aside0.mk hn
    clear hj hv hc hcell hvis hok hx hd hi hn
    gi_wp2
    refine ⟨trivial, rfl, ?_⟩
    have hB2 : Below wr.heap.size wr (wr.alloc (.cells #[.int .i64 x2.f0, .int .i64 x2.f1, .int .i64 x2.f2, .int .i64 x2.f3, .slice B4 x2.f4.length d4, .string x2.f5, .slice B6 x2.f6.length d6] 26)) := below_alloc (Below.refl _ _) _
    obtain ⟨rest, hrest⟩ := partsOf_split p (i + 1) (x.f6.length - (i + 1))
    rw [show i + 1 + (x.f6.length - (i + 1)) = x.f6.length by omega] at hrest
    refine (HVIS.out l yb vb wi Tot J Jx hJ hY (pre0 ++ (⟨x, A4, c4, some ad, c6⟩ :: partsOf p i)) (rest ++ post0) _ _ ?_ (hJ _ _ _ _ _ HJ.out (IStep.new hB2)) (HV.out.alloc hB2)).mono ?_
    ·rw [HT.out, hrest, partsOf_succ]; simp
    ·rintro r W4 (⟨rfl, X4, hJ4, hV4⟩ | ⟨rfl, pre, X4, hpre, hJx4⟩)
     ·have HJ4 := Aside0.mk hJ4
      have HV4 := Aside0.mk hV4
      clear hJ4 hV4 hB2 hrest
      have ew : wrap64 ((i : Int) + 1) = ((i + 1 : Nat) : Int) := by have := HN.out; unfold wrap64; omega
      gi_wp2
      refine ⟨⟨i + 1, X4, ?_, hlt, ?_, HV4.out⟩, ?_⟩
      ·first | rfl | (simp [ew]; done) | (simp [ew]; rfl)
      ·have := HJ4.out
       rw [partsOf_succ]
       simpa using this
      ·first | omega | (simp [ew]; omega)
     ·gi_wp2
      go_ret
      exact .inr ⟨rfl, pre, X4, hpre, hJx4⟩
   ·have hlt2 : decide ((i : Int) < (x.f6.length : Int)) = false := decide_eq_false (by omega)
    gi_wp2
    go_ret
    obtain rfl : i = x.f6.length := by omega
    exact .inl ⟨rfl, X', hj, hv⟩
 ·gi_wp2
  go_ret
  exact .inr ⟨rfl, _, _, ⟨partsOf p x.f6.length ++ post0, by rw [HT.out]; simp⟩, hJx3⟩
theorem visits_of (wt : World) (K : Nat → Prop) (hK : ∀ k, k < wt.heap.size → K k) : ∀ (n : Nat) (e : NodeE), SizeOf.sizeOf e.x < n → e.Ok wt → ∃ L, L.map (·.x) = preN e.x ∧ (∀ d ∈ L, d.Ok wt) ∧ Visits wt K e L := by
 intro n
 induction n with
 | zero => intro e h; omega
 | succ n ih =>
  intro e hs he
  have kids : ∀ i : Nat, ∃ q : NodeE × List NodeE, ∀ (hi : i < e.x.f6.length), q.1.x = e.x.f6[i] ∧ q.1.Ok wt ∧ (∀ ad, e.A6 = some ad → ∀ j u, q.1.a[j]? = some u → wt.cell? (ad.add (i * 7 + j)) = some u) ∧ q.2.map (·.x) = preN e.x.f6[i] ∧ (∀ d ∈ q.2, d.Ok wt) ∧ Visits wt K q.1 q.2 := by
   intro i
   by_cases hi : i < e.x.f6.length
   ·obtain ⟨ad, d, h1, h2, h3, h4⟩ := kid_at he i hi
    have hsz : SizeOf.sizeOf d.x < n := by
     have h5 : SizeOf.sizeOf e.x.f6[i] < SizeOf.sizeOf e.x.f6 := List.sizeOf_lt_of_mem (List.getElem_mem hi)
     have h6 : SizeOf.sizeOf e.x.f6 < SizeOf.sizeOf e.x := by
      cases e.x; simp; omega
     rw [h2]; omega
    obtain ⟨L, g1, g2, g3⟩ := ih d hsz h3
    exact ⟨(d, L), fun _ => ⟨h2, h3, fun ad2 e2 => by rw [h1] at e2; cases e2; exact h4, by rw [g1, h2], g2, g3⟩⟩
   ·exact ⟨(e, []), fun h => absurd h hi⟩
  obtain ⟨p, hp⟩ := Classical.skolem.1 kids
  refine ⟨e :: partsOf p e.x.f6.length, ?_, ?_, visit_walk wt K hK e he p fun i hi => ⟨(hp i hi).1, (hp i hi).2.1, (hp i hi).2.2.1, (hp i hi).2.2.2.2.2⟩⟩
  ·rw [preN_eq, preL_flat, List.map_cons]
   congr 1
   unfold partsOf
   rw [List.map_flatten, List.map_map]
   congr 1
   refine List.ext_getElem (by simp) (fun i h1 h2 => ?_)
   have hi : i < e.x.f6.length := by simpa using h1
   simp [(hp i hi).2.2.2.1]
  ·intro d hd
   rcases List.mem_cons.1 hd with rfl | hd
   ·exact he
   ·unfold partsOf at hd
    obtain ⟨l, hl, hdl⟩ := List.mem_flatten.1 hd
    obtain ⟨i, hi, rfl⟩ := List.mem_map.1 hl
    exact (hp i (List.mem_range.1 hi)).2.2.2.2.1 d hdl
theorem all_calls (e : NodeE) (w : World) : Calls Tryd.prog 31 #[e.v] w fun r w' => r = .returned (.func (.func 49) #[] #[.pointer (some ⟨w.heap.size, 0, none⟩)]) ∧ w' = w.alloc (.cells e.a 26) := by
 simp only [NodeE.v, NodeE.a]
 go_enter Tryd.func31, Tryd.ntmps31
 go_wp2
 go_ret
 exact ⟨rfl, rfl⟩
theorem all1_gives (wt w0 : World) (e : NodeE) (L : List NodeE) (bs : Nat) (hlt : ∀ k, k < wt.heap.size → w0.heap[k]? = wt.heap[k]?) (hwt : wt.heap.size ≤ w0.heap.size) (hb : w0.heap[bs]? = some (.cells e.a 26 (0, 0)))
  (hv : Visits wt (fun k => k < wt.heap.size ∨ k = bs) e L) : Gives Tryd.prog 49 #[.pointer (some ⟨bs, 0, none⟩)] encNode (fun k => k < wt.heap.size ∨ k = bs) L w0 := by
 have hbs := (Array.getElem?_eq_some_iff.1 hb).1
 refine ⟨fun k q => by rcases q with q | rfl; omega; exact hbs, ?_⟩
 obtain ⟨x, A4, c4, A6, c6⟩ := e
 intro l J Jx W hbw hJ hJx hY h0
 refine callsIn_of_wp Tryd.func49 rfl trivial ?_ rfl
 simp only [Tryd.ntmps49, List.size_toArray, List.length_cons, List.length_nil, Nat.reduceAdd, Nat.reduceSub, Array.replicate_succ, Array.replicate_zero, List.push_toArray, List.append_toArray, List.nil_append, List.cons_append]
 have hbW := (hbw.block bs hbs).trans hb
 simp only [NodeE.a] at hbW
 have c0 : W.cell? ⟨bs, 0, none⟩ = some (.int .i64 x.f0) := (blk_cell hbW 0).trans rfl
 have c1 : W.cell? ⟨bs, 1, none⟩ = some (.int .i64 x.f1) := (blk_cell hbW 1).trans rfl
 have c2 : W.cell? ⟨bs, 2, none⟩ = some (.int .i64 x.f2) := (blk_cell hbW 2).trans rfl
 have c3 : W.cell? ⟨bs, 3, none⟩ = some (.int .i64 x.f3) := (blk_cell hbW 3).trans rfl
 have c4' : W.cell? ⟨bs, 4, none⟩ = some (.slice A4 x.f4.length c4) := (blk_cell hbW 4).trans rfl
 have c5 : W.cell? ⟨bs, 5, none⟩ = some (.string x.f5) := (blk_cell hbW 5).trans rfl
 have c6' : W.cell? ⟨bs, 6, none⟩ = some (.slice A6 x.f6.length c6) := (blk_cell hbW 6).trans rfl
 have hle : w0.heap.size ≤ W.heap.size := hbw.size
 have hbl : bs < W.heap.size := Nat.lt_of_lt_of_le hbs hle
 have hbn : bs ≠ W.heap.size := Nat.ne_of_lt hbl
 have hbn2 : bs ≠ W.heap.size + 1 := by omega
 have HV := Aside0.mk hv
 have HBW := Aside0.mk hbw
 have H0 := Aside0.mk h0
 clear hv hb hbW hbw h0
 gi_wp2
 refine ⟨trivial, rfl, ?_⟩
 have hB2 : Below W.heap.size W ((W.alloc (.cells #[.func (.yield l) #[] #[]] 33)).alloc (.cells #[.func (.func 50) #[] #[.pointer (some ⟨W.heap.size, 0, none⟩), .pointer (some ⟨W.heap.size + 1, 0, none⟩)]] 33)) := below_alloc (below_alloc (Below.refl _ _) _) _
 have k0 := blk_alloc (blk_new W (.cells #[.func (.yield l) #[] #[]] 33)) (.cells #[.func (.func 50) #[] #[.pointer (some ⟨W.heap.size, 0, none⟩), .pointer (some ⟨W.heap.size + 1, 0, none⟩)]] 33)
 have k1 := blk_new (W.alloc (.cells #[.func (.yield l) #[] #[]] 33)) (.cells #[.func (.func 50) #[] #[.pointer (some ⟨W.heap.size, 0, none⟩), .pointer (some ⟨W.heap.size + 1, 0, none⟩)]] 33)
 have ez : (W.alloc (.cells #[.func (.yield l) #[] #[]] 33)).heap.size = W.heap.size + 1 := by simp
 rw [ez] at k1
 have ez2 : ((W.alloc (.cells #[.func (.yield l) #[] #[]] 33)).alloc (.cells #[.func (.func 50) #[] #[.pointer (some ⟨W.heap.size, 0, none⟩), .pointer (some ⟨W.heap.size + 1, 0, none⟩)]] 33)).heap.size = W.heap.size + 2 := by simp
 obtain ⟨W2, hW2⟩ : ∃ W2, (W.alloc (.cells #[.func (.yield l) #[] #[]] 33)).alloc (.cells #[.func (.func 50) #[] #[.pointer (some ⟨W.heap.size, 0, none⟩), .pointer (some ⟨W.heap.size + 1, 0, none⟩)]] 33) = W2 := ⟨_, rfl⟩
 rw [hW2] at hB2 k0 k1 ez2 ⊢
 have hJ2 := hJ _ _ _ _ _ H0.out (IStep.new hB2)
 have hV2 : VInv wt W l W.heap.size (W.heap.size + 1) (xnew (fun _ => False) W W2) W2 :=
  ⟨fun k q => ((hB2.block k (by omega)).trans (HBW.out.block k (by omega))).trans (hlt k q), k0, k1, .inr ⟨by omega, by omega⟩, .inr ⟨by omega, by omega⟩, fun k q => by rcases q with q | q; exact q.elim; exact q, by omega, by omega⟩
 refine (HV.out l _ _ W L J Jx hJ hY [] [] _ _ (by simp) hJ2 hV2).mono ?_
 rintro r W4 (⟨rfl, X4, hJ4, hV4⟩ | ⟨rfl, pre, X4, hpre, hJx4⟩)
 ·gi_wp2
  refine bodyPost_end (results_none rfl _ _ _) rfl ?_
  exact ⟨⟨_, rfl⟩, .inl ⟨X4, fun k q => (hV4.bound k q).2, by simpa using hJ4⟩⟩
 ·gi_wp2
  refine bodyPost_end (results_none rfl _ _ _) rfl ?_
  exact ⟨⟨_, rfl⟩, .inr ⟨pre, X4, hpre, hJx4⟩⟩
structure OwnI (w : World) (lo : Nat) (X : Nat → Prop) (W : World) : Prop where
 below : Below w.heap.size w W
 far : ∀ k, X k → lo ≤ k
 size : lo ≤ W.heap.size
 base : w.heap.size ≤ lo
theorem OwnI.step {w : World} {lo : Nat} {X X' : Nat → Prop} {W W' : World} (h : OwnI w lo X W) (hs : IStep X W W' X') : OwnI w lo X' W' :=
 ⟨hs.below h.below (fun k q => Nat.le_trans h.base (h.far k q)) (Nat.le_refl _), hs.ge h.far h.size, Nat.le_trans h.size hs.size, h.base⟩
theorem OwnI.keep {w : World} {lo : Nat} {X X' : Nat → Prop} {W W' : World} (h : OwnI w lo X W) (hs : IStep X W W' X') {k : Nat} {o : Obj} (hk : k < lo) (hw : W.heap[k]? = some o) : W'.heap[k]? = some o :=
 hs.keep hw (fun q => by have := h.far k q; omega)
theorem all_calls' (x : S26) (A4 : Option Addr) (c4 : Nat) (A6 : Option Addr) (c6 : Nat) (w : World) : Calls Tryd.prog 31 #[.agg #[.int .i64 x.f0, .int .i64 x.f1, .int .i64 x.f2, .int .i64 x.f3, .slice A4 x.f4.length c4, .string x.f5, .slice A6 x.f6.length c6]] w fun r w' => r = .returned (.func (.func 49) #[] #[.pointer (some ⟨w.heap.size, 0, none⟩)]) ∧ w' = w.alloc (.cells #[.int .i64 x.f0, .int .i64 x.f1, .int .i64 x.f2, .int .i64 x.f3, .slice A4 x.f4.length c4, .string x.f5, .slice A6 x.f6.length c6] 26) := all_calls ⟨x, A4, c4, A6, c6⟩ w
theorem OwnI.set {w : World} {lo : Nat} {X : Nat → Prop} {W : World} (h : OwnI w lo X W) (a : Addr) (v : Value) (ha : w.heap.size ≤ a.block) : OwnI w lo X (W.setCell a v) :=
 ⟨h.below.setCell ha v, h.far, by simpa using h.size, h.base⟩
theorem ret_collected {fn : Func} {tmps : Array Value} {D : Nat} {W : World} {v : Value} {R : Ending → World → Prop} (hr : ∀ w : World, (results fn tmps).run Tryd.prog w = .ok v w) (hD : W.heap[D]? = some (.deferred (some [])))
  (hR : R (.returned v) (W.putObj D (.deferred none))) : bodyPostM Fence.wide 0 Tryd.prog fn R .ret { tmps := tmps, defers := [{ target := .collected D, args := #[] }] } W :=
 ⟨by simp, .inl ⟨_, _, rfl, run_takeDeferred hD, v, hr _, hR⟩⟩
theorem below_collected {w W : World} {D : Nat} {o : Obj} (hB : Below w.heap.size w W) (hd : w.heap.size ≤ D) : Below w.heap.size w (W.putObj D o) :=
 hB.trans ⟨rfl, rfl, rfl, by simp, fun k hk => World.putObj_heap_other (by have := hB.size; omega)⟩
theorem alloc3 (w : World) (o1 o2 o3 : Obj) : Below w.heap.size w (((w.alloc o1).alloc o2).alloc o3) ∧ (((w.alloc o1).alloc o2).alloc o3).heap[w.heap.size]? = some o1 ∧ (((w.alloc o1).alloc o2).alloc o3).heap[w.heap.size + 1]? = some o2 ∧
  (((w.alloc o1).alloc o2).alloc o3).heap[w.heap.size + 1 + 1]? = some o3 ∧ (((w.alloc o1).alloc o2).alloc o3).heap.size = w.heap.size + 3 := by
 refine ⟨below_alloc (below_alloc (below_alloc (Below.refl _ _) _) _) _, blk_alloc (blk_alloc (blk_new w _) _) _, ?_, ?_, by simp⟩
 ·have := blk_alloc (blk_new (w.alloc o1) o2) o3
  simpa using this
 ·have := blk_new ((w.alloc o1).alloc o2) o3
  simpa using this
def SizeI (w : World) (pre : List NodeE) (X : Nat → Prop) (W : World) : Prop := OwnI w (w.heap.size + 3) X W ∧ W.heap[w.heap.size + 1]? = some (.cells #[.int .i64 (pre.length : Int)] 3 (0, 0))
theorem SizeI.abides (w : World) : Abides (SizeI w) := fun pre X W W' X' h hs => ⟨h.1.step hs, h.1.keep hs (by omega) h.2⟩
def cst_Size.f (a0_0 : Int) (a0_1 : Int) (a0_2 : Int) (a0_3 : Int) (l0_4 : List S46) (a0_5 : ByteArray) (l0_6 : List S26) : Option Int :=
 if (preN ⟨a0_0, a0_1, a0_2, a0_3, l0_4, a0_5, l0_6⟩).length ≤ 4294967296 then some ((preN ⟨a0_0, a0_1, a0_2, a0_3, l0_4, a0_5, l0_6⟩).length : Int) else none
theorem cst_Size.calls (a0_0 : Int) (a0_1 : Int) (a0_2 : Int) (a0_3 : Int) (A0_4 : Option Addr) (c0_4 : Nat) (l0_4 : List S46) (a0_5 : ByteArray) (A0_6 : Option Addr) (c0_6 : Nat) (l0_6 : List S26) (r : Int) (w : World) (hr0_4 : Kd.C k46 w A0_4 l0_4.length l0_4) (hc0_4 : l0_4.length ≤ c0_4) (hr0_6 : Kd.C k26 w A0_6 l0_6.length l0_6) (hc0_6 : l0_6.length ≤ c0_6) (h : cst_Size.f a0_0 a0_1 a0_2 a0_3 l0_4 a0_5 l0_6 = some r) :
  Calls Tryd.prog 14 #[.agg #[.int .i64 a0_0, .int .i64 a0_1, .int .i64 a0_2, .int .i64 a0_3, .slice A0_4 l0_4.length c0_4, .string a0_5, .slice A0_6 l0_6.length c0_6]] w fun e w' => e = .returned (.int .i64 r) ∧ Below w.heap.size w w' := by
 unfold cst_Size.f at h
 obtain ⟨x, hx⟩ : ∃ x : S26, x = ⟨a0_0, a0_1, a0_2, a0_3, l0_4, a0_5, l0_6⟩ := ⟨_, rfl⟩
 rw [← hx] at h
 obtain rfl : a0_0 = x.f0 := by rw [hx]
 obtain rfl : a0_1 = x.f1 := by rw [hx]
 obtain rfl : a0_2 = x.f2 := by rw [hx]
 obtain rfl : a0_3 = x.f3 := by rw [hx]
 obtain rfl : l0_4 = x.f4 := by rw [hx]
 obtain rfl : a0_5 = x.f5 := by rw [hx]
 obtain rfl : l0_6 = x.f6 := by rw [hx]
 clear hx
 split at h
 case isFalse => cases h
 rename_i hs
 have HP := Aside0.mk (Option.some.inj h)
 have HS := Aside0.mk hs
 clear h hs
 have hok : NodeE.Ok w ⟨x, A0_4, c0_4, A0_6, c0_6⟩ := ⟨hc0_4, hr0_4, hc0_6, hr0_6⟩
 obtain ⟨L, hL1, hL2, hL3⟩ := visits_of w (fun k => k < w.heap.size ∨ k = w.heap.size + 1 + 1) (fun k q => .inl q) _ ⟨x, A0_4, c0_4, A0_6, c0_6⟩ (Nat.lt_succ_self _) hok
 have HL1 := Aside0.mk hL1
 have HL3 := Aside0.mk hL3
 clear hr0_4 hc0_4 hr0_6 hc0_6 hok hL1 hL2 hL3
 refine (callsIn_wide (n := 0)).1 ?_
 refine callsIn_of_wp_marks Tryd.func14 rfl trivial ?_ rfl
 simp only [Tryd.ntmps14, List.size_toArray, List.length_cons, List.length_nil, Nat.reduceAdd, Nat.reduceSub, Array.replicate_succ, Array.replicate_zero, List.push_toArray, List.append_toArray, List.nil_append, List.cons_append]
 gi_wp2_with (refine ⟨trivial, rfl, ?_⟩; refine (callsIn_wide.2 (all_calls' _ _ _ _ _ _)).mono ?_; rintro e w' ⟨rfl, rfl⟩)
 have hA := alloc3 w (.cells #[.int .i64 x.f0, .int .i64 x.f1, .int .i64 x.f2, .int .i64 x.f3, .slice A0_4 x.f4.length c0_4, .string x.f5, .slice A0_6 x.f6.length c0_6] 26) (.cells #[.int .i64 0] 3) (.cells #[.int .i64 x.f0, .int .i64 x.f1, .int .i64 x.f2, .int .i64 x.f3, .slice A0_4 x.f4.length c0_4, .string x.f5, .slice A0_6 x.f6.length c0_6] 26)
 obtain ⟨W0, hW0⟩ : ∃ W0, (((w.alloc (.cells #[.int .i64 x.f0, .int .i64 x.f1, .int .i64 x.f2, .int .i64 x.f3, .slice A0_4 x.f4.length c0_4, .string x.f5, .slice A0_6 x.f6.length c0_6] 26)).alloc (.cells #[.int .i64 0] 3)).alloc (.cells #[.int .i64 x.f0, .int .i64 x.f1, .int .i64 x.f2, .int .i64 x.f3, .slice A0_4 x.f4.length c0_4, .string x.f5, .slice A0_6 x.f6.length c0_6] 26)) = W0 := ⟨_, rfl⟩
 rw [hW0] at hA ⊢
 clear hW0
 obtain ⟨hB, hb0, hb1, hb2, hz⟩ := hA
 refine wp_range (gf := 49) (lb := #[.pointer (some ⟨w.heap.size + 1 + 1, 0, none⟩)]) ?hg (enters_of Tryd.func49 (by kernel_rfl) rfl) (all1_gives w W0 ⟨x, A0_4, c0_4, A0_6, c0_6⟩ L _ (fun k q => hB.block k q) hB.size hb2 HL3.out) (Below.refl _ _) (fun _ => rfl)
  (SizeI w) (fun _ _ _ _ => False) (fun pre y a₁ X W => SizeI w pre X W ∧ a₁ = { tmps := #[.agg #[.int .i64 x.f0, .int .i64 x.f1, .int .i64 x.f2, .int .i64 x.f3, .slice A0_4 x.f4.length c0_4, .string x.f5, .slice A0_6 x.f6.length c0_6], .pointer (some ⟨w.heap.size, 0, none⟩), .int .i64 0, .pointer (some ⟨w.heap.size + 1, 0, none⟩),
   .agg #[.int .i64 x.f0, .int .i64 x.f1, .int .i64 x.f2, .int .i64 x.f3, .slice A0_4 x.f4.length c0_4, .string x.f5, .slice A0_6 x.f6.length c0_6], .func (.func 49) #[] #[.pointer (some ⟨w.heap.size + 1 + 1, 0, none⟩)], y.v, undef, undef, undef], defers := [] }) (SizeI.abides w) (fun _ _ _ _ _ _ h => h.elim) ?hM ?h0 ?assign ?body ?done ?stop
 case hg => rfl
 case hM => exact fun pre y a₁ _ X W W' X' h hs => ⟨SizeI.abides w pre X W W' X' h.1 hs, h.2⟩
 case h0 => exact ⟨⟨hB, fun k q => q.elim, by omega, by omega⟩, hb1⟩
 case assign =>
  intro l pre y post X W hL hI hX
  simp only [encNode]
  gi_wp2
  exact ⟨Keeps.refl _ _, hI, by first | rfl | (simp; done) | (simp [Array.zip]; rfl)⟩
 case body =>
  rintro l pre y post a₁ X W hL ⟨hI, rfl⟩ hX
  have HI := Aside0.mk hI
  have c1 : W.cell? ⟨w.heap.size + 1, 0, none⟩ = some (.int .i64 (pre.length : Int)) := (blk_cell hI.2 0).trans rfl
  have f1 := blk_frozen hI.2 0
  clear hI
  have hlen : pre.length + 1 ≤ 4294967296 := by
   have h1 := congrArg List.length HL1.out
   rw [hL] at h1
   simp at h1
   have := HS.out
   omega
  have ew : wrap64 ((pre.length : Int) + 1) = ((pre.length + 1 : Nat) : Int) := by unfold wrap64; omega
  gi_wp2
  have e1 := blk_put HI.out.2 0 (.int .i64 ((pre.length : Int) + 1)) rfl
  refine ⟨Keeps.set _ _ _ (fun q => ?_), HI.out.1.set _ _ (by simp <;> omega), ?_⟩
  ·rcases q with q | q
   ·have := HI.out.1.far _ q; simp at this <;> omega
   ·simp at q; omega
  ·simpa using e1
 case done =>
  rintro X W hI hXD hXb hD
  have HI := Aside0.mk hI
  have c1 : W.cell? ⟨w.heap.size + 1, 0, none⟩ = some (.int .i64 (L.length : Int)) := (blk_cell hI.2 0).trans rfl
  have HD := Aside0.mk hD
  clear hI hD
  gi_wp2
  refine ret_collected (fun w => results_tmp rfl _ _ _) HD.out ⟨?_, below_collected HI.out.1.below (by omega)⟩
  have h1 := congrArg List.length HL1.out
  have h2 := HP.out
  simp at h1
  rw [← h2, ← h1]
  rfl
 case stop => exact fun c pre X W _ h => h.elim
def ownOf (x : S26) : List ByteArray := if x.f0 < 0 then [] else x.f4.map (·.f2) ++ [x.f5]
theorem own_l0 (x : S26) (hx : x.f4.length ≤ 4294967296) : ∀ (d i : Nat), x.f4.length ≤ i + d → i ≤ x.f4.length → Ends (fun k => cst_own.l0 k ((x.f4.take i).map (·.f2)) x.f4 (x.f4.length : Int) (i : Int) x.f0 x.f1 x.f2 x.f3 x.f4 x.f5 x.f6) (x.f4.map (·.f2) ++ [x.f5]) := by
 have last : ∀ i, i = x.f4.length → Ends (fun k => cst_own.l0 k ((x.f4.take i).map (·.f2)) x.f4 (x.f4.length : Int) (i : Int) x.f0 x.f1 x.f2 x.f3 x.f4 x.f5 x.f6) (x.f4.map (·.f2) ++ [x.f5]) := by
  intro i e
  subst e
  refine Ends.step (fun k => cst_own.l0.eq_2 ..) (Ends.neg (by omega) (Ends.pos (by rw [List.length_map, List.length_take]; omega) ?_))
  rw [List.take_length]
  exact Ends.const _
 intro d
 induction d with
 | zero => intro i h1 h2; exact last i (by omega)
 | succ d ih =>
  intro i h1 h2
  by_cases hi : i < x.f4.length
  ·have h3 := ih (i + 1) (by omega) hi
   have e1 : wrap64 ((i : Int) + 1) = ((i + 1 : Nat) : Int) := by unfold wrap64; omega
   have e2 : (x.f4.take (i + 1)).map (·.f2) = (x.f4.take i).map (·.f2) ++ [(rd_T46 x.f4 (i : Int)).f2] := by
    unfold rd_T46
    rw [List.take_add_one, List.map_append]
    simp [List.getD_eq_getElem?_getD, hi]
   rw [e2] at h3
   refine Ends.step (fun k => cst_own.l0.eq_2 ..) (Ends.pos (by omega) (Ends.pos (by omega) (Ends.pos (by omega) (Ends.pos (by rw [List.length_map, List.length_take]; omega) ?_))))
   rw [e1]
   exact h3
  ·exact last i (by omega)
theorem own_ends (x : S26) (hx : x.f4.length ≤ 4294967296) : ∃ k, cst_own.f k x.f0 x.f1 x.f2 x.f3 x.f4 x.f5 x.f6 = some (ownOf x) := by
 refine Ends.get ?_
 unfold cst_own.f ownOf
 by_cases h : x.f0 < 0
 ·rw [if_pos h]; exact Ends.pos h (Ends.const _)
 ·rw [if_neg h]
  have e1 : wrap64 ((x.f4.length : Int) + 1) = ((x.f4.length + 1 : Nat) : Int) := by unfold wrap64; omega
  rw [e1]
  refine Ends.neg h (Ends.pos (by omega) (Ends.pos (by omega) ?_))
  have := own_l0 x hx x.f4.length 0 (by omega) (by omega)
  simpa using this
theorem ownOf_len (x : S26) (hx : x.f4.length ≤ 4294967296) : (ownOf x).length ≤ 4294967297 := by
 unfold ownOf
 split
 ·simp
 ·simp; omega
def szB (l : List ByteArray) : Nat := (l.map ByteArray.size).sum
theorem szB_append (a b : List ByteArray) : szB (a ++ b) = szB a + szB b := by simp [szB]
theorem szB_take (l : List ByteArray) (i : Nat) (hi : i < l.length) : szB (l.take (i + 1)) = szB (l.take i) + l[i].size := by
 rw [List.take_add_one, szB_append]
 simp [hi, szB]
theorem szB_le (l : List ByteArray) (i : Nat) : szB (l.take i) ≤ szB l := by
 have := szB_append (l.take i) (l.drop i)
 rw [List.take_append_drop] at this
 omega
def ownsE (l : List NodeE) : List ByteArray := l.flatMap (fun e => ownOf e.x)
theorem ownsE_append (a b : List NodeE) : ownsE (a ++ b) = ownsE a ++ ownsE b := by simp [ownsE]
theorem ownsE_x (l : List NodeE) : ownsE l = (l.map (·.x)).flatMap ownOf := by simp [ownsE, List.flatMap_map]
def Mild (x : S26) : Prop := (∀ y ∈ preN x, y.f4.length ≤ 4294967296) ∧ szB ((preN x).flatMap ownOf) ≤ 4294967296 ∧ (preN x).length ≤ 4294967296
instance (x : S26) : Decidable (Mild x) := by unfold Mild; infer_instance
def LenI (w : World) (pre : List NodeE) (X : Nat → Prop) (W : World) : Prop := OwnI w (w.heap.size + 3) X W ∧ W.heap[w.heap.size + 1]? = some (.cells #[.int .i64 (szB (ownsE pre) : Int)] 3 (0, 0))
theorem LenI.abides (w : World) : Abides (LenI w) := fun pre X W W' X' h hs => ⟨h.1.step hs, h.1.keep hs (by omega) h.2⟩
def LenM (w : World) (x : S26) (A4 : Option Addr) (c4 : Nat) (A6 : Option Addr) (c6 : Nat) (pre : List NodeE) (y : NodeE) (a₁ : Act) (X : Nat → Prop) (W : World) : Prop :=
 LenI w pre X W ∧ ∃ bx, W.heap[bx]? = some (.cells y.a 26 (0, 0)) ∧ ¬ X bx ∧ w.heap.size + 3 ≤ bx ∧ a₁ = { tmps := #[.agg #[.int .i64 x.f0, .int .i64 x.f1, .int .i64 x.f2, .int .i64 x.f3, .slice A4 x.f4.length c4, .string x.f5, .slice A6 x.f6.length c6], .pointer (some ⟨w.heap.size, 0, none⟩), .int .i64 0, .pointer (some ⟨w.heap.size + 1, 0, none⟩), .pointer (some ⟨bx, 0, none⟩), undef, undef,
   .agg #[.int .i64 x.f0, .int .i64 x.f1, .int .i64 x.f2, .int .i64 x.f3, .slice A4 x.f4.length c4, .string x.f5, .slice A6 x.f6.length c6], .func (.func 49) #[] #[.pointer (some ⟨w.heap.size + 1 + 1, 0, none⟩)], y.v, undef, undef, undef, undef, undef, undef, undef, undef, undef, undef, undef, undef, undef], defers := [] }
theorem LenM.abides (w : World) (x : S26) (A4 : Option Addr) (c4 : Nat) (A6 : Option Addr) (c6 : Nat) (pre : List NodeE) (y : NodeE) (a₁ : Act) : Abides (fun (_ : Unit) => LenM w x A4 c4 A6 c6 pre y a₁) := fun _ X W W' X' h hs => by
 obtain ⟨hI, bx, h1, h2, h3, h4⟩ := h
 exact ⟨LenI.abides w pre X W W' X' hI hs, bx, hs.keep h1 h2, hs.keepX (Array.getElem?_eq_some_iff.1 h1).1 h2, h3, h4⟩
def cst_Len.f (a0_0 : Int) (a0_1 : Int) (a0_2 : Int) (a0_3 : Int) (l0_4 : List S46) (a0_5 : ByteArray) (l0_6 : List S26) : Option Int :=
 if Mild ⟨a0_0, a0_1, a0_2, a0_3, l0_4, a0_5, l0_6⟩ then some (szB ((preN ⟨a0_0, a0_1, a0_2, a0_3, l0_4, a0_5, l0_6⟩).flatMap ownOf) : Int) else none
theorem cst_Len.calls (a0_0 : Int) (a0_1 : Int) (a0_2 : Int) (a0_3 : Int) (A0_4 : Option Addr) (c0_4 : Nat) (l0_4 : List S46) (a0_5 : ByteArray) (A0_6 : Option Addr) (c0_6 : Nat) (l0_6 : List S26) (r : Int) (w : World) (hr0_4 : Kd.C k46 w A0_4 l0_4.length l0_4) (hc0_4 : l0_4.length ≤ c0_4) (hr0_6 : Kd.C k26 w A0_6 l0_6.length l0_6) (hc0_6 : l0_6.length ≤ c0_6) (h : cst_Len.f a0_0 a0_1 a0_2 a0_3 l0_4 a0_5 l0_6 = some r) :
  Calls Tryd.prog 12 #[.agg #[.int .i64 a0_0, .int .i64 a0_1, .int .i64 a0_2, .int .i64 a0_3, .slice A0_4 l0_4.length c0_4, .string a0_5, .slice A0_6 l0_6.length c0_6]] w fun e w' => e = .returned (.int .i64 r) ∧ Below w.heap.size w w' := by
 unfold cst_Len.f at h
 obtain ⟨x, hx⟩ : ∃ x : S26, x = ⟨a0_0, a0_1, a0_2, a0_3, l0_4, a0_5, l0_6⟩ := ⟨_, rfl⟩
 rw [← hx] at h
 obtain rfl : a0_0 = x.f0 := by rw [hx]
 obtain rfl : a0_1 = x.f1 := by rw [hx]
 obtain rfl : a0_2 = x.f2 := by rw [hx]
 obtain rfl : a0_3 = x.f3 := by rw [hx]
 obtain rfl : l0_4 = x.f4 := by rw [hx]
 obtain rfl : a0_5 = x.f5 := by rw [hx]
 obtain rfl : l0_6 = x.f6 := by rw [hx]
 clear hx
 split at h
 case isFalse => cases h
 rename_i hs
 have HP := Aside0.mk (Option.some.inj h)
 have HS := Aside0.mk hs
 clear h hs
 have hok : NodeE.Ok w ⟨x, A0_4, c0_4, A0_6, c0_6⟩ := ⟨hc0_4, hr0_4, hc0_6, hr0_6⟩
 obtain ⟨L, hL1, hL2, hL3⟩ := visits_of w (fun k => k < w.heap.size ∨ k = w.heap.size + 1 + 1) (fun k q => .inl q) _ ⟨x, A0_4, c0_4, A0_6, c0_6⟩ (Nat.lt_succ_self _) hok
 have HL1 := Aside0.mk hL1
 have HL2 := Aside0.mk hL2
 have HL3 := Aside0.mk hL3
 clear hr0_4 hc0_4 hr0_6 hc0_6 hok hL1 hL2 hL3
 refine (callsIn_wide (n := 0)).1 ?_
 refine callsIn_of_wp_marks Tryd.func12 rfl trivial ?_ rfl
 simp only [Tryd.ntmps12, List.size_toArray, List.length_cons, List.length_nil, Nat.reduceAdd, Nat.reduceSub, Array.replicate_succ, Array.replicate_zero, List.push_toArray, List.append_toArray, List.nil_append, List.cons_append]
 gi_wp2_with (refine ⟨trivial, rfl, ?_⟩; refine (callsIn_wide.2 (all_calls' _ _ _ _ _ _)).mono ?_; rintro e w' ⟨rfl, rfl⟩)
 have hA := alloc3 w (.cells #[.int .i64 x.f0, .int .i64 x.f1, .int .i64 x.f2, .int .i64 x.f3, .slice A0_4 x.f4.length c0_4, .string x.f5, .slice A0_6 x.f6.length c0_6] 26) (.cells #[.int .i64 0] 3) (.cells #[.int .i64 x.f0, .int .i64 x.f1, .int .i64 x.f2, .int .i64 x.f3, .slice A0_4 x.f4.length c0_4, .string x.f5, .slice A0_6 x.f6.length c0_6] 26)
 obtain ⟨W0, hW0⟩ : ∃ W0, (((w.alloc (.cells #[.int .i64 x.f0, .int .i64 x.f1, .int .i64 x.f2, .int .i64 x.f3, .slice A0_4 x.f4.length c0_4, .string x.f5, .slice A0_6 x.f6.length c0_6] 26)).alloc (.cells #[.int .i64 0] 3)).alloc (.cells #[.int .i64 x.f0, .int .i64 x.f1, .int .i64 x.f2, .int .i64 x.f3, .slice A0_4 x.f4.length c0_4, .string x.f5, .slice A0_6 x.f6.length c0_6] 26)) = W0 := ⟨_, rfl⟩
 rw [hW0] at hA ⊢
 clear hW0
 obtain ⟨hB, hb0, hb1, hb2, hz⟩ := hA
 refine wp_range (gf := 49) (lb := #[.pointer (some ⟨w.heap.size + 1 + 1, 0, none⟩)]) ?hg (enters_of Tryd.func49 (by kernel_rfl) rfl) (all1_gives w W0 ⟨x, A0_4, c0_4, A0_6, c0_6⟩ L _ (fun k q => hB.block k q) hB.size hb2 HL3.out) (Below.refl _ _) (fun _ => rfl)
  (LenI w) (fun _ _ _ _ => False) (LenM w x A0_4 c0_4 A0_6 c0_6) (LenI.abides w) (fun _ _ _ _ _ _ h => h.elim) ?hM ?h0 ?assign ?body ?done ?stop
 case hg => rfl
 case hM => exact fun pre y a₁ => LenM.abides w x A0_4 c0_4 A0_6 c0_6 pre y a₁
 case h0 => exact ⟨⟨hB, fun k q => q.elim, by omega, by omega⟩, hb1⟩
 case assign =>
  intro l pre y post X W hL hI hX
  have HI := Aside0.mk hI
  have HX := Aside0.mk hX
  clear hL hI hX hb0 hb1 hb2
  obtain ⟨x2, B4, d4, B6, d6⟩ := y
  simp only [encNode, NodeE.v]
  gi_wp2
  have hI' := LenI.abides w pre X W _ X HI.out (IStep.of_below (below_alloc (Below.refl _ _) (.cells #[.int .i64 x2.f0, .int .i64 x2.f1, .int .i64 x2.f2, .int .i64 x2.f3, .slice B4 x2.f4.length d4, .string x2.f5, .slice B6 x2.f6.length d6] 26)))
  exact ⟨.of_below (below_alloc (Below.refl _ _) _), hI', W.heap.size, blk_new W _, fun q => by have := (HX.out _ q).2; omega, HI.out.1.size, rfl⟩
 case body =>
  rintro l pre y post a₁ X W hL ⟨hI, bx, hbx, hnx, hge, rfl⟩ hX
  have hok := (HL2.out y (by rw [hL]; simp)).step (fun k q => hI.1.below.block k q)
  have hlead : y.x.f4.length ≤ 4294967296 := HS.out.1 y.x (by rw [← HL1.out, hL]; simp)
  obtain ⟨x2, B4, d4, B6, d6⟩ := y
  obtain ⟨kq, hkq⟩ := own_ends x2 hlead
  have HI := Aside0.mk hI
  have HL := Aside0.mk hL
  have HK := Aside0.mk hkq
  have O1 := Aside0.mk hok.l4
  have O2 := Aside0.mk hok.g4
  have O3 := Aside0.mk hok.l6
  have O4 := Aside0.mk hok.g6
  simp only [NodeE.a] at hbx
  have c0 : W.cell? ⟨bx, 0, none⟩ = some (.int .i64 x2.f0) := (blk_cell hbx 0).trans rfl
  have c1 : W.cell? ⟨bx, 1, none⟩ = some (.int .i64 x2.f1) := (blk_cell hbx 1).trans rfl
  have c2 : W.cell? ⟨bx, 2, none⟩ = some (.int .i64 x2.f2) := (blk_cell hbx 2).trans rfl
  have c3 : W.cell? ⟨bx, 3, none⟩ = some (.int .i64 x2.f3) := (blk_cell hbx 3).trans rfl
  have c4 : W.cell? ⟨bx, 4, none⟩ = some (.slice B4 x2.f4.length d4) := (blk_cell hbx 4).trans rfl
  have c5 : W.cell? ⟨bx, 5, none⟩ = some (.string x2.f5) := (blk_cell hbx 5).trans rfl
  have c6 : W.cell? ⟨bx, 6, none⟩ = some (.slice B6 x2.f6.length d6) := (blk_cell hbx 6).trans rfl
  clear hI hL hkq hok hlead hb0 hb1 hb2 hbx hX
  simp only [NodeE.v]
  gi_wp2_with (refine ⟨trivial, rfl, ?_⟩; refine (callsIn_wide.2 (cst_own.calls kq _ _ _ _ _ _ _ _ _ _ _ _ _ O2.out O1.out O4.out O3.out HK.out)).mono ?_; rintro e w2 ⟨v0, rfl, hR, hB2⟩; obtain ⟨A, c, rfl⟩ := Kd.R_slice hR)
  have hI2 := LenI.abides w pre X W w2 X HI.out (IStep.of_below hB2)
  have hR2 : Kd.R Kd.string 9 w2 W.heap.size (fun k => W.heap.size ≤ k) (.slice A (ownOf x2).length c) (ownOf x2) := Kd.R_mono (Kd.R_bound hR) (fun k hk => hk.2.1)
  have hk2 : Keeps (fun k => X k ∨ (k < w.heap.size ∨ k = w.heap.size + 1 + 1)) W w2 := Keeps.of_below hB2
  have HI2 := Aside0.mk hI2
  have HR2 := Aside0.mk hR2
  have HK2 := Aside0.mk hk2
  clear hR hB2 hI2 hR2 hk2 c0 c1 c2 c3 c4 c5 c6
  have hlen : szB (ownsE pre ++ ownOf x2) ≤ 4294967296 := by
   have h1 := HS.out.2.1
   rw [← HL1.out, ← ownsE_x, HL.out, show pre ++ (⟨x2, B4, d4, B6, d6⟩ : NodeE) :: post = (pre ++ [⟨x2, B4, d4, B6, d6⟩]) ++ post by simp, ownsE_append, ownsE_append, szB_append] at h1
   have h2 : ownsE [(⟨x2, B4, d4, B6, d6⟩ : NodeE)] = ownOf x2 := by simp [ownsE]
   rw [h2] at h1
   omega
  have hsz := HI.out.1.size
  have hne : w.heap.size + 1 < W.heap.size := by omega
  clear hsz
  gi_loopw [13] (fun v13 wr => ∃ i : Nat, v13 = .int .i64 (i : Int) ∧ i ≤ (ownOf x2).length ∧ OwnI w (w.heap.size + 3) X wr ∧ wr.heap[w.heap.size + 1]? = some (.cells #[.int .i64 (szB (ownsE pre ++ (ownOf x2).take i) : Int)] 3 (0, 0)) ∧
   Kd.R Kd.string 9 wr W.heap.size (fun k => W.heap.size ≤ k) (.slice A (ownOf x2).length c) (ownOf x2) ∧ Keeps (fun k => X k ∨ (k < w.heap.size ∨ k = w.heap.size + 1 + 1)) W wr) (fun v13 _ => match v13 with | .int _ z => (ownOf x2).length - z.toNat | _ => 0)
  case atStart => exact ⟨0, rfl, Nat.zero_le _, HI2.out.1, by simpa using HI2.out.2, HR2.out, HK2.out⟩
  case round =>
   clear HI2 HR2 HK2
   obtain ⟨i, rfl, hi, ho, hc, hr, hk⟩ := hrel
   by_cases hlt : i < (ownOf x2).length
   ·have hlt2 : decide ((i : Int) < ((ownOf x2).length : Int)) = true := decide_eq_true (by omega)
    obtain ⟨ad, e1, q0⟩ := Kd.at_string (Kd.R_reads' hr).2.2 (i : Int) (by omega) (by omega)
    obtain rfl : A = some ad := e1
    have hi2 : ((i : Int)).toNat = i := rfl
    rw [hi2] at q0
    have hs0 : rdOf ByteArray.empty (ownOf x2) (i : Int) = (ownOf x2)[i] := by simp [rdOf, List.getD_eq_getElem?_getD, hlt]
    rw [hs0] at q0
    obtain ⟨s, hs1⟩ : ∃ s, (ownOf x2)[i] = s := ⟨_, rfl⟩
    rw [hs1] at q0
    obtain ⟨tot, ht⟩ : ∃ tot, szB (ownsE pre ++ (ownOf x2).take i) = tot := ⟨_, rfl⟩
    have hnext : szB (ownsE pre ++ (ownOf x2).take (i + 1)) = tot + s.size := by rw [← ht, szB_append, szB_append, szB_take _ _ hlt, hs1]; omega
    have hbd : tot + s.size ≤ 4294967296 := by
     have h1 := szB_le (ownOf x2) (i + 1)
     rw [szB_append] at hlen hnext
     omega
    rw [ht] at hc
    have hm : (ownOf x2).length - (i + 1) < (ownOf x2).length - i := by omega
    have ew : wrap64 ((tot : Int) + (s.size : Int)) = ((tot + s.size : Nat) : Int) := by unfold wrap64; omega
    have hol := ownOf_len x2 (HS.out.1 x2 (by rw [← HL1.out, HL.out]; simp))
    have ew2 : wrap64 ((i : Int) + 1) = ((i + 1 : Nat) : Int) := by unfold wrap64; omega
    have z1 : wr.cell? ⟨w.heap.size + 1, 0, none⟩ = some (.int .i64 (tot : Int)) := (blk_cell hc 0).trans rfl
    have z2 := blk_frozen hc 0
    have HO := Aside0.mk ho
    have HC := Aside0.mk hc
    have HR := Aside0.mk hr
    have HKK := Aside0.mk hk
    have HN := Aside0.mk hnext
    clear ho hc hr hk hnext hlen hol hs1 ht hbd
    gi_wp2
    have e1 := blk_put HC.out 0 (.int .i64 ((tot : Int) + (s.size : Int))) rfl
    refine ⟨⟨i + 1, ?_, hlt, HO.out.set _ _ (by simp <;> omega), ?_, Kd.R_far HR.out (fun k hk => by simp <;> omega) _, HKK.out.trans (Keeps.set _ _ _ (fun q => ?_))⟩, ?_⟩
    ·first | rfl | (simp; done) | (simp [ew2]; done)
    ·rw [HN.out]
     simpa using e1
    ·rcases q with q | q
     ·have := HO.out.far _ q; simp at this <;> omega
     ·simp at q; omega
    ·rw [ew2]
     exact hm
   ·have hlt2 : decide ((i : Int) < ((ownOf x2).length : Int)) = false := decide_eq_false (by omega)
    gi_wp2
    refine ⟨hk, ho, ?_⟩
    obtain rfl : i = (ownOf x2).length := by omega
    rw [List.take_length] at hc
    rw [ownsE_append]
    have h2 : ownsE [(⟨x2, B4, d4, B6, d6⟩ : NodeE)] = ownOf x2 := by simp [ownsE]
    rw [h2]
    exact hc
 case done =>
  rintro X W hI hXD hXb hD
  have HI := Aside0.mk hI
  have c1 : W.cell? ⟨w.heap.size + 1, 0, none⟩ = some (.int .i64 (szB (ownsE L) : Int)) := (blk_cell hI.2 0).trans rfl
  have HD := Aside0.mk hD
  clear hI hD
  gi_wp2
  refine ret_collected (fun w => results_tmp rfl _ _ _) HD.out ⟨?_, below_collected HI.out.1.below (by omega)⟩
  have h2 := HP.out
  rw [← h2, ← HL1.out, ← ownsE_x]
  rfl
 case stop => exact fun c pre X W _ h => h.elim
theorem ret_collected2 {fn : Func} {tmps : Array Value} {D : Nat} {W : World} {v : Value} {R : Ending → World → Prop} (hD : W.heap[D]? = some (.deferred (some []))) (hr : (results fn tmps).run Tryd.prog (W.putObj D (.deferred none)) = .ok v (W.putObj D (.deferred none)))
  (hR : R (.returned v) (W.putObj D (.deferred none))) : bodyPostM Fence.wide 0 Tryd.prog fn R .ret { tmps := tmps, defers := [{ target := .collected D, args := #[] }] } W :=
 ⟨by simp, .inl ⟨_, _, rfl, run_takeDeferred hD, v, hr, hR⟩⟩
def cleanN (y : S26) : Bool := decide (y.f3 = 0) && y.f4.all (fun p => decide (p.f0 = 1))
def CleanB (w : World) (X : Nat → Prop) (W : World) : Prop := OwnI w (w.heap.size + 3) X W ∧ W.heap[w.heap.size + 1]? = some (.cells #[.bool false] 4 (0, 0))
theorem CleanB.step {w : World} {X X' : Nat → Prop} {W W' : World} (h : CleanB w X W) (hs : IStep X W W' X') : CleanB w X' W' := ⟨h.1.step hs, h.1.keep hs (by omega) h.2⟩
def CleanI (w : World) (pre : List NodeE) (X : Nat → Prop) (W : World) : Prop := (∀ e ∈ pre, cleanN e.x = true) ∧ CleanB w X W
theorem CleanI.abides (w : World) : Abides (CleanI w) := fun pre X W W' X' h hs => ⟨h.1, h.2.step hs⟩
def CleanX (w : World) (c : Code) (pre : List NodeE) (X : Nat → Prop) (W : World) : Prop := c = .ret ∧ (∃ e ∈ pre, cleanN e.x = false) ∧ CleanB w X W
theorem CleanX.abides (w : World) (c : Code) : Abides (CleanX w c) := fun pre X W W' X' h hs => ⟨h.1, h.2.1, h.2.2.step hs⟩
def CleanM (w : World) (x : S26) (A4 : Option Addr) (c4 : Nat) (A6 : Option Addr) (c6 : Nat) (pre : List NodeE) (y : NodeE) (a₁ : Act) (X : Nat → Prop) (W : World) : Prop :=
 CleanI w pre X W ∧ ∃ bx, W.heap[bx]? = some (.cells y.a 26 (0, 0)) ∧ ¬ X bx ∧ w.heap.size + 3 ≤ bx ∧ a₁ = { tmps := #[.agg #[.int .i64 x.f0, .int .i64 x.f1, .int .i64 x.f2, .int .i64 x.f3, .slice A4 x.f4.length c4, .string x.f5, .slice A6 x.f6.length c6], .pointer (some ⟨w.heap.size, 0, none⟩), .pointer (some ⟨w.heap.size + 1, 0, none⟩), .pointer (some ⟨bx, 0, none⟩), undef, undef,
   .agg #[.int .i64 x.f0, .int .i64 x.f1, .int .i64 x.f2, .int .i64 x.f3, .slice A4 x.f4.length c4, .string x.f5, .slice A6 x.f6.length c6], .func (.func 49) #[] #[.pointer (some ⟨w.heap.size + 1 + 1, 0, none⟩)], y.v, undef, undef, undef, undef, undef, undef, undef, undef, undef, undef, undef, undef, undef, undef], defers := [] }
theorem CleanM.abides (w : World) (x : S26) (A4 : Option Addr) (c4 : Nat) (A6 : Option Addr) (c6 : Nat) (pre : List NodeE) (y : NodeE) (a₁ : Act) : Abides (fun (_ : Unit) => CleanM w x A4 c4 A6 c6 pre y a₁) := fun _ X W W' X' h hs => by
 obtain ⟨hI, bx, h1, h2, h3, h4⟩ := h
 exact ⟨CleanI.abides w pre X W W' X' hI hs, bx, hs.keep h1 h2, hs.keepX (Array.getElem?_eq_some_iff.1 h1).1 h2, h3, h4⟩
def cst_Clean.f (a0_0 : Int) (a0_1 : Int) (a0_2 : Int) (a0_3 : Int) (l0_4 : List S46) (a0_5 : ByteArray) (l0_6 : List S26) : Option Bool :=
 if Mild ⟨a0_0, a0_1, a0_2, a0_3, l0_4, a0_5, l0_6⟩ then some ((preN ⟨a0_0, a0_1, a0_2, a0_3, l0_4, a0_5, l0_6⟩).all cleanN) else none
theorem clean_end {w W : World} {tmps : Array Value} {D : Nat} {b : Bool} (h2 : W.heap[w.heap.size + 1]? = some (.cells #[.bool b] 4 (0, 0))) (hD : W.heap[D]? = some (.deferred (some []))) (hB : Below w.heap.size w W) (hd : w.heap.size + 1 < D)
  {r : Bool} (hr : b = r) (t2 : tmps[2]? = some (.pointer (some ⟨w.heap.size + 1, 0, none⟩)) := by rfl) :
  bodyPostM Fence.wide 0 Tryd.prog Tryd.f19 (fun e w' => e = .returned (.bool r) ∧ Below w.heap.size w w') .ret { tmps := tmps, defers := [{ target := .collected D, args := #[] }] } W := by
 subst hr
 have k2 : (W.putObj D (.deferred none)).heap[w.heap.size + 1]? = _ := (World.putObj_heap_other (by omega)).trans h2
 have c0 : (W.putObj D (.deferred none)).cell? ⟨w.heap.size + 1, 0, none⟩ = some (.bool b) := (blk_cell k2 0).trans rfl
 refine ret_collected2 (v := .bool b) hD ?_ ⟨rfl, below_collected hB (by omega)⟩
 simp [results, Tryd.f19, go_sem, c0, t2]
theorem cst_Clean.calls (a0_0 : Int) (a0_1 : Int) (a0_2 : Int) (a0_3 : Int) (A0_4 : Option Addr) (c0_4 : Nat) (l0_4 : List S46) (a0_5 : ByteArray) (A0_6 : Option Addr) (c0_6 : Nat) (l0_6 : List S26) (r : Bool) (w : World) (hr0_4 : Kd.C k46 w A0_4 l0_4.length l0_4) (hc0_4 : l0_4.length ≤ c0_4) (hr0_6 : Kd.C k26 w A0_6 l0_6.length l0_6) (hc0_6 : l0_6.length ≤ c0_6) (h : cst_Clean.f a0_0 a0_1 a0_2 a0_3 l0_4 a0_5 l0_6 = some r) :
  Calls Tryd.prog 19 #[.agg #[.int .i64 a0_0, .int .i64 a0_1, .int .i64 a0_2, .int .i64 a0_3, .slice A0_4 l0_4.length c0_4, .string a0_5, .slice A0_6 l0_6.length c0_6]] w fun e w' => e = .returned (.bool r) ∧ Below w.heap.size w w' := by
 unfold cst_Clean.f at h
 obtain ⟨x, hx⟩ : ∃ x : S26, x = ⟨a0_0, a0_1, a0_2, a0_3, l0_4, a0_5, l0_6⟩ := ⟨_, rfl⟩
 rw [← hx] at h
 obtain rfl : a0_0 = x.f0 := by rw [hx]
 obtain rfl : a0_1 = x.f1 := by rw [hx]
 obtain rfl : a0_2 = x.f2 := by rw [hx]
 obtain rfl : a0_3 = x.f3 := by rw [hx]
 obtain rfl : l0_4 = x.f4 := by rw [hx]
 obtain rfl : a0_5 = x.f5 := by rw [hx]
 obtain rfl : l0_6 = x.f6 := by rw [hx]
 clear hx
 split at h
 case isFalse => cases h
 rename_i hs
 have HP := Aside0.mk (Option.some.inj h)
 have HS := Aside0.mk hs
 clear h hs
 have hok : NodeE.Ok w ⟨x, A0_4, c0_4, A0_6, c0_6⟩ := ⟨hc0_4, hr0_4, hc0_6, hr0_6⟩
 obtain ⟨L, hL1, hL2, hL3⟩ := visits_of w (fun k => k < w.heap.size ∨ k = w.heap.size + 1 + 1) (fun k q => .inl q) _ ⟨x, A0_4, c0_4, A0_6, c0_6⟩ (Nat.lt_succ_self _) hok
 have HL1 := Aside0.mk hL1
 have HL2 := Aside0.mk hL2
 have HL3 := Aside0.mk hL3
 clear hr0_4 hc0_4 hr0_6 hc0_6 hok hL1 hL2 hL3
 refine (callsIn_wide (n := 0)).1 ?_
 refine callsIn_of_wp_marks Tryd.func19 rfl trivial ?_ rfl
 simp only [Tryd.ntmps19, List.size_toArray, List.length_cons, List.length_nil, Nat.reduceAdd, Nat.reduceSub, Array.replicate_succ, Array.replicate_zero, List.push_toArray, List.append_toArray, List.nil_append, List.cons_append]
 gi_wp2_with (refine ⟨trivial, rfl, ?_⟩; refine (callsIn_wide.2 (all_calls' _ _ _ _ _ _)).mono ?_; rintro e w' ⟨rfl, rfl⟩)
 have hA := alloc3 w (.cells #[.int .i64 x.f0, .int .i64 x.f1, .int .i64 x.f2, .int .i64 x.f3, .slice A0_4 x.f4.length c0_4, .string x.f5, .slice A0_6 x.f6.length c0_6] 26) (.cells #[.bool false] 4) (.cells #[.int .i64 x.f0, .int .i64 x.f1, .int .i64 x.f2, .int .i64 x.f3, .slice A0_4 x.f4.length c0_4, .string x.f5, .slice A0_6 x.f6.length c0_6] 26)
 obtain ⟨W0, hW0⟩ : ∃ W0, (((w.alloc (.cells #[.int .i64 x.f0, .int .i64 x.f1, .int .i64 x.f2, .int .i64 x.f3, .slice A0_4 x.f4.length c0_4, .string x.f5, .slice A0_6 x.f6.length c0_6] 26)).alloc (.cells #[.bool false] 4)).alloc (.cells #[.int .i64 x.f0, .int .i64 x.f1, .int .i64 x.f2, .int .i64 x.f3, .slice A0_4 x.f4.length c0_4, .string x.f5, .slice A0_6 x.f6.length c0_6] 26)) = W0 := ⟨_, rfl⟩
 rw [hW0] at hA ⊢
 clear hW0
 obtain ⟨hB, hb0, hb1, hb2, hz⟩ := hA
 refine wp_range (gf := 49) (lb := #[.pointer (some ⟨w.heap.size + 1 + 1, 0, none⟩)]) ?hg (enters_of Tryd.func49 (by kernel_rfl) rfl) (all1_gives w W0 ⟨x, A0_4, c0_4, A0_6, c0_6⟩ L _ (fun k q => hB.block k q) hB.size hb2 HL3.out) (Below.refl _ _) (fun _ => rfl)
  (CleanI w) (CleanX w) (CleanM w x A0_4 c0_4 A0_6 c0_6) (CleanI.abides w) (CleanX.abides w) ?hM ?h0 ?assign ?body ?done ?stop
 case hg => rfl
 case hM => exact fun pre y a₁ => CleanM.abides w x A0_4 c0_4 A0_6 c0_6 pre y a₁
 case h0 => exact ⟨by simp, ⟨hB, fun k q => q.elim, by omega, by omega⟩, hb1⟩
 case assign =>
  intro l pre y post X W hL hI hX
  have HI := Aside0.mk hI
  have HX := Aside0.mk hX
  clear hL hI hX hb0 hb1 hb2
  obtain ⟨x2, B4, d4, B6, d6⟩ := y
  simp only [encNode, NodeE.v]
  gi_wp2
  have hI' := CleanI.abides w pre X W _ X HI.out (IStep.of_below (below_alloc (Below.refl _ _) (.cells #[.int .i64 x2.f0, .int .i64 x2.f1, .int .i64 x2.f2, .int .i64 x2.f3, .slice B4 x2.f4.length d4, .string x2.f5, .slice B6 x2.f6.length d6] 26)))
  exact ⟨.of_below (below_alloc (Below.refl _ _) _), hI', W.heap.size, blk_new W _, fun q => by have := (HX.out _ q).2; omega, HI.out.2.1.size, rfl⟩
 case body =>
  rintro l pre y post a₁ X W hL ⟨hI, bx, hbx, hnx, hge, rfl⟩ hX
  have hok := (HL2.out y (by rw [hL]; simp)).step (fun k q => hI.2.1.below.block k q)
  obtain ⟨x2, B4, d4, B6, d6⟩ := y
  have HI := Aside0.mk hI
  have HL := Aside0.mk hL
  have O2 := Aside0.mk hok.g4
  simp only [NodeE.a] at hbx
  have c3 : W.cell? ⟨bx, 3, none⟩ = some (.int .i64 x2.f3) := (blk_cell hbx 3).trans rfl
  have c4 : W.cell? ⟨bx, 4, none⟩ = some (.slice B4 x2.f4.length d4) := (blk_cell hbx 4).trans rfl
  have z1 : W.cell? ⟨w.heap.size + 1, 0, none⟩ = some (.bool false) := (blk_cell hI.2.2 0).trans rfl
  have z2 := blk_frozen hI.2.2 0
  clear hI hL hok hb0 hb1 hb2 hbx hX
  simp only [NodeE.v]
  by_cases h0 : (x2.f3 == 0) = true
  case neg =>
   replace h0 : (x2.f3 == 0) = false := by simpa using h0
   gi_wp2
   have e1 := blk_put HI.out.2.2 0 (.bool false) rfl
   refine ⟨Keeps.set _ _ _ (fun q => ?_), rfl, ⟨_, List.mem_append_right _ List.mem_cons_self, ?_⟩, HI.out.2.1.set _ _ (by simp <;> omega), by simpa using e1⟩
   ·rcases q with q | q
    ·have := HI.out.2.1.far _ q; simp at this <;> omega
    ·simp at q; omega
   ·unfold cleanN
    have : ¬ x2.f3 = 0 := by simpa using h0
    simp [this]
  case pos =>
   gi_wp2
   clear c3 c4 z1 z2
   have hb4 : x2.f4.length ≤ 9223372036854775807 := O2.out.2.1
   have HX := Aside0.mk (show Keeps (fun k => X k ∨ (k < w.heap.size ∨ k = w.heap.size + 1 + 1)) W W from Keeps.refl _ _)
   gi_loopw [15] (fun v15 wr => ∃ i : Nat, v15 = .int .i64 (i : Int) ∧ i ≤ x2.f4.length ∧ (x2.f4.take i).all (fun p => decide (p.f0 = 1)) = true ∧ CleanB w X wr ∧ Keeps (fun k => X k ∨ (k < w.heap.size ∨ k = w.heap.size + 1 + 1)) W wr ∧ Kd.C k46 wr B4 x2.f4.length x2.f4) (fun v15 _ => match v15 with | .int _ z => x2.f4.length - z.toNat | _ => 0)
   case atStart => exact ⟨0, rfl, Nat.zero_le _, by simp, HI.out.2, HX.out, O2.out⟩
   case round =>
    clear HX
    obtain ⟨i, rfl, hi, hall, hcb, hk, hC⟩ := hrel
    by_cases hlt : i < x2.f4.length
    ·have hlt2 : decide ((i : Int) < (x2.f4.length : Int)) = true := decide_eq_true (by omega)
     obtain ⟨ad, e1, q0, q1, q2⟩ := at_T46 hC (i : Int) (by omega) (by omega)
     obtain rfl : B4 = some ad := e1
     have hi2 : ((i : Int)).toNat = i := rfl
     rw [hi2] at q0 q1 q2
     have hs0 : rd_T46 x2.f4 (i : Int) = x2.f4[i] := by simp [rd_T46, List.getD_eq_getElem?_getD, hlt]
     rw [hs0] at q0 q1 q2
     have htk : (x2.f4.take (i + 1)).all (fun p => decide (p.f0 = 1)) = ((x2.f4.take i).all (fun p => decide (p.f0 = 1)) && decide (x2.f4[i].f0 = 1)) := by
      rw [List.take_add_one, List.all_append]
      simp [hlt]
     have hmem : x2.f4[i] ∈ x2.f4 := List.getElem_mem hlt
     obtain ⟨s, hs1⟩ : ∃ s, x2.f4[i] = s := ⟨_, rfl⟩
     rw [hs1] at q0 q1 q2 htk hmem
     have hm : x2.f4.length - (i + 1) < x2.f4.length - i := by omega
     have ew2 : wrap64 ((i : Int) + 1) = ((i + 1 : Nat) : Int) := by unfold wrap64; omega
     have hwl : w.heap.size + 1 < wr.heap.size := by have := hcb.1.size; omega
     have hwn : w.heap.size + 1 ≠ wr.heap.size := Nat.ne_of_lt hwl
     have z1 : wr.cell? ⟨w.heap.size + 1, 0, none⟩ = some (.bool false) := (blk_cell hcb.2 0).trans rfl
     have z2 := blk_frozen hcb.2 0
     have HCB := Aside0.mk hcb
     have HKK := Aside0.mk hk
     have HCC := Aside0.mk hC
     have HTK := Aside0.mk htk
     have HALL := Aside0.mk hall
     have HM := Aside0.mk hmem
     clear hcb hk hC htk hall hs0 hs1 hmem
     have hbl : Below wr.heap.size wr (wr.alloc (.cells #[.int .i64 s.f0, .int .i64 s.f1, .string s.f2] 46)) := below_alloc (Below.refl _ _) _
     have HBL := Aside0.mk hbl
     clear hbl
     by_cases h1 : (s.f0 == 1) = true
     case neg =>
      replace h1 : (s.f0 == 1) = false := by simpa using h1
      gi_wp2
      have e1 := blk_put HCB.out.2 0 (.bool false) rfl
      have ho := HCB.out.1.set ⟨w.heap.size + 1, 0, none⟩ (.bool false) (by simp)
      have hcb2 : CleanB w X (wr.setCell ⟨w.heap.size + 1, 0, none⟩ (.bool false)) := ⟨ho, by simpa using e1⟩
      refine ⟨HKK.out.trans ((Keeps.set _ _ _ (fun q => ?_)).trans (Keeps.of_below (below_alloc (Below.refl _ _) _))), rfl, ⟨_, List.mem_append_right _ List.mem_cons_self, ?_⟩, hcb2.step (IStep.of_below (below_alloc (Below.refl _ _) _))⟩
      ·rcases q with q | q
       ·have := HCB.out.1.far _ q; simp at this <;> omega
       ·simp at q; omega
      ·unfold cleanN
       have h2 : ¬ s.f0 = 1 := by simpa using h1
       rw [Bool.and_eq_false_iff]
       refine .inr (Bool.eq_false_iff.2 (fun q => ?_))
       have := List.all_eq_true.1 q s HM.out
       simp [h2] at this
     case pos =>
      gi_wp2
      refine ⟨⟨i + 1, ?_, hlt, ?_, HCB.out.step (IStep.of_below HBL.out), HKK.out.trans (Keeps.of_below HBL.out), Kd.C_below HCC.out HBL.out⟩, ?_⟩
      ·first | rfl | (simp; done) | (simp [ew2]; done)
      ·have h2 : s.f0 = 1 := by simpa using h1
       rw [HTK.out, HALL.out]
       simp [h2]
      ·first | exact hm | (rw [ew2]; exact hm)
    ·have hlt2 : decide ((i : Int) < (x2.f4.length : Int)) = false := decide_eq_false (by omega)
     gi_wp2
     refine ⟨hk, fun e he => ?_, hcb⟩
     rcases List.mem_append.1 he with q | q
     ·exact HI.out.1 e q
     ·obtain rfl := List.mem_singleton.1 q
      unfold cleanN
      obtain rfl : i = x2.f4.length := by omega
      rw [List.take_length] at hall
      have h2 : x2.f3 = 0 := by simpa using h0
      rw [Bool.and_eq_true]
      exact ⟨by simp [h2], hall⟩
 case done =>
  rintro X W hI hXD hXb hD
  have HI := Aside0.mk hI
  have c1 : W.cell? ⟨w.heap.size + 1, 0, none⟩ = some (.bool false) := (blk_cell hI.2.2 0).trans rfl
  have f1 := blk_frozen hI.2.2 0
  have HD := Aside0.mk hD
  clear hI hD hXb hXD hb0 hb1 hb2
  gi_wp2
  have e1 := blk_put HI.out.2.2 0 (.bool true) rfl
  have hd := (Below.heap_setCell W ⟨w.heap.size + 1, 0, none⟩ (.bool true) _ (by simp <;> omega)).trans HD.out
  refine clean_end e1 hd (HI.out.2.1.below.setCell (by simp <;> omega) _) (by omega) ?_
  rw [← HP.out, ← HL1.out]
  symm
  rw [List.all_eq_true]
  intro z hz
  obtain ⟨e, he, rfl⟩ := List.mem_map.1 hz
  exact HI.out.1 e he
 case stop =>
  rintro c pre X W hpre ⟨rfl, he, hI⟩ hXD hD
  have HPR := Aside0.mk hpre
  have HE := Aside0.mk he
  have HI := Aside0.mk hI
  have HD := Aside0.mk hD
  clear hI hD hpre he hXD hb0 hb1 hb2
  gi_wp2
  refine clean_end HI.out.2 HD.out HI.out.1.below (by omega) ?_
  rw [← HP.out, ← HL1.out]
  symm
  obtain ⟨e, he, hf⟩ := HE.out
  refine Bool.eq_false_iff.2 (fun q => ?_)
  have h1 := List.all_eq_true.1 q e.x (List.mem_map.2 ⟨e, HPR.out.subset he, rfl⟩)
  rw [hf] at h1
  cases h1
def flatB (l : List ByteArray) : List UInt8 := (l.map (fun s => s.data.toList)).flatten
theorem flatB_append (a b : List ByteArray) : flatB (a ++ b) = flatB a ++ flatB b := by simp [flatB]
theorem flatB_len (l : List ByteArray) : (flatB l).length = szB l := by
 induction l with
 | nil => rfl
 | cons a l ih =>
  have : flatB (a :: l) = a.data.toList ++ flatB l := rfl
  have h2 : szB (a :: l) = a.size + szB l := by simp [szB]
  have h3 : a.data.toList.length = a.size := Array.length_toList
  rw [this, List.length_append, ih, h2, h3]
def textB (x : S26) : ByteArray := ⟨(flatB ((preN x).flatMap ownOf)).toArray⟩
def cst_Text.f (a0_0 : Int) (a0_1 : Int) (a0_2 : Int) (a0_3 : Int) (l0_4 : List S46) (a0_5 : ByteArray) (l0_6 : List S26) : Option ByteArray :=
 if Mild ⟨a0_0, a0_1, a0_2, a0_3, l0_4, a0_5, l0_6⟩ then some (textB ⟨a0_0, a0_1, a0_2, a0_3, l0_4, a0_5, l0_6⟩) else none
def cellsB (l : List UInt8) : List Value := l.map fun b => Value.int .u8 b.toNat
def rowB (n : Nat) (l : List UInt8) : Array Value := (cellsB l ++ List.replicate (n - l.length) (Value.int .u8 0)).toArray
theorem rowB_size (n : Nat) (l : List UInt8) (h : l.length ≤ n) : (rowB n l).size = n := by simp [rowB, cellsB]; omega
theorem info_u8 : (Tryd.prog.info? 5).map (fun i => (i.zero, i.size, i.bytes)) = some (some (Value.int .u8 0), 1, 1) := by kernel_rfl
theorem u8_size (w : World) : (Go.sizeOf 5).run Tryd.prog w = .ok 1 w := by
 have h := info_u8
 unfold Go.sizeOf typeInfo
 cases hq : Tryd.prog.info? 5 with
 | none => simp [hq] at h
 | some i => simp [hq] at h; simp [hq, h]
theorem text_make (w : World) (n : Nat) (hn : n ≤ 4294967296) : (Instr.makeSlice 50 (.int .i64 (n : Int)) (.int .i64 (n : Int))).run Tryd.prog w = .ok (.slice (some ⟨w.heap.size, 0, none⟩) n n) (w.alloc (.cells (rowB n []) 5)) := by
 obtain ⟨i0, hi, hzz⟩ := Option.map_eq_some_iff.1 info_u8
 simp only [Prod.mk.injEq] at hzz
 obtain ⟨hz0, hz1, hz2⟩ := hzz
 have hr := run_make (P := Tryd.prog) w 50 5 i0 (.int .u8 0) Tryd.underlying50 hi hz0 .i64 .i64 (n : Int) (n : Int) (by omega) (by omega) (by rw [hz2]; omega) (by omega)
 have e : madeCells (Value.int .u8 0).cells n = rowB n [] := by
  unfold madeCells rowB
  apply Array.ext
  ·simp [cellsB]
  ·intro i h1 h2
   simp [cellsB, Value.cells, Nat.mod_one]
 rw [hr]
 simp only [Int.toNat_natCast, hz1, Nat.mul_one, e]
theorem copy_row (w : World) (g n : Nat) (l : List UInt8) (s : ByteArray) (hg : w.heap[g]? = some (.cells (rowB n l) 5 (0, 0))) (hl : l.length + s.size ≤ n) :
  (Builtin.copy_ #[50, 9] 3 #[Lib.tailV g n l.length, .string s]).run Tryd.prog w = .ok (goInt s.size) (w.setRow g (rowB n (l ++ s.data.toList))) := by
 have hs0 : s.data.toList.length = s.size := Array.length_toList
 have hsz : (Tryd.prog.info? 5).map (·.size) = some 1 := by kernel_rfl
 have hrow : ∀ o, o = l.length → (((rowB n l).toList.take o ++ Lib.byteCells s.data.toList ++ (rowB n l).toList.drop (o + s.size)).toArray) = rowB n (l ++ s.data.toList) := by
  intro o ho
  subst ho
  have hc : (cellsB l).length = l.length := by simp [cellsB]
  unfold rowB
  simp only [List.length_append, hs0]
  refine congrArg List.toArray ?_
  rw [List.take_append_of_le_length (by omega), List.take_of_length_le (by omega), List.drop_append, List.drop_of_length_le (by omega), hc, List.drop_replicate]
  simp only [cellsB, Lib.byteCells, List.map_append, List.append_assoc, List.nil_append]
  rw [show n - l.length - (l.length + s.size - l.length) = n - (l.length + s.size) by omega]
 unfold Lib.tailV
 by_cases h : n = l.length
 ·have hz : s.size = 0 := by omega
  have hl0 : s.data.toList = [] := List.eq_nil_of_length_eq_zero (by omega)
  rw [if_pos h]
  have hr := Lib.run_copy_row_string (P := Tryd.prog) w 50 9 3 5 g 0 (n - l.length) (n - l.length) s (rowB n l) 5 Tryd.underlying50 hsz hg (by omega) (by rw [rowB_size _ _ (by omega)]; omega)
  rw [hr, hl0, hz]
  simp [Lib.byteCells]
 ·rw [if_neg h]
  have hr := Lib.run_copy_row_string (P := Tryd.prog) w 50 9 3 5 g l.length (n - l.length) (n - l.length) s (rowB n l) 5 Tryd.underlying50 hsz hg (by omega) (by rw [rowB_size _ _ (by omega)]; omega)
  rw [hr, hrow _ rfl]
theorem row_text (w : World) (g : Nat) (l : List UInt8) (hg : w.heap[g]? = some (.cells (rowB l.length l) 5 (0, 0))) : (convert 50 9 (.slice (some ⟨g, 0, none⟩) l.length l.length)).run Tryd.prog w = .ok (.string ⟨l.toArray⟩) w := by
 refine run_convert_bytes_back (P := Tryd.prog) w 50 9 5 ⟨g, 0, none⟩ l.length l Tryd.underlying50 Tryd.underlying5 Tryd.underlying9 (fun j hj => ?_)
 have h1 := blk_cell hg j
 have h2 : (Addr.add ⟨g, 0, none⟩ j) = ⟨g, j, none⟩ := by
  unfold Addr.add
  split
  ·rename_i h; subst h; rfl
  ·simp
 rw [h2, h1]
 simp [rowB, cellsB, hj]
theorem alloc4 (w : World) (o1 o2 o3 o4 : Obj) : Below w.heap.size w ((((w.alloc o1).alloc o2).alloc o3).alloc o4) ∧ ((((w.alloc o1).alloc o2).alloc o3).alloc o4).heap[w.heap.size]? = some o1 ∧ ((((w.alloc o1).alloc o2).alloc o3).alloc o4).heap[w.heap.size + 1]? = some o2 ∧
  ((((w.alloc o1).alloc o2).alloc o3).alloc o4).heap[w.heap.size + 1 + 1]? = some o3 ∧ ((((w.alloc o1).alloc o2).alloc o3).alloc o4).heap[w.heap.size + 1 + 1 + 1]? = some o4 ∧ ((((w.alloc o1).alloc o2).alloc o3).alloc o4).heap.size = w.heap.size + 4 := by
 obtain ⟨h1, h2, h3, h4, h5⟩ := alloc3 w o1 o2 o3
 refine ⟨below_alloc h1 _, blk_alloc h2 _, blk_alloc h3 _, blk_alloc h4 _, ?_, by simp⟩
 have := blk_new (((w.alloc o1).alloc o2).alloc o3) o4
 rw [h5] at this
 exact this
theorem OwnI.drew {w : World} {lo : Nat} {X : Nat → Prop} {W : World} (h : OwnI w lo X W) : OwnI w lo X W.drew := ⟨below_drew h.below, h.far, h.size, h.base⟩
theorem OwnI.setRow {w : World} {lo : Nat} {X : Nat → Prop} {W : World} (h : OwnI w lo X W) (g : Nat) (cs : Array Value) (hg : w.heap.size ≤ g) : OwnI w lo X (W.setRow g cs) := ⟨h.below.trans ⟨rfl, rfl, rfl, by simp, fun k hk => setRow_other _ _ _ _ (by omega)⟩, h.far, by simpa using h.size, h.base⟩
def TextB (w : World) (g n : Nat) (l : List UInt8) (X : Nat → Prop) (W : World) : Prop := OwnI w (g + 4) X W ∧ W.heap[g]? = some (.cells (rowB n l) 5 (0, 0)) ∧ W.heap[g + 1]? = some (.cells #[.slice (some ⟨g, 0, none⟩) n n] 50 (0, 0)) ∧ W.heap[g + 1 + 1]? = some (.cells #[.int .i64 (l.length : Int)] 3 (0, 0))
theorem TextB.step {w : World} {g n : Nat} {l : List UInt8} {X X' : Nat → Prop} {W W' : World} (h : TextB w g n l X W) (hs : IStep X W W' X') : TextB w g n l X' W' :=
 ⟨h.1.step hs, h.1.keep hs (by omega) h.2.1, h.1.keep hs (by omega) h.2.2.1, h.1.keep hs (by omega) h.2.2.2⟩
def TextI (w : World) (g n : Nat) (pre : List NodeE) (X : Nat → Prop) (W : World) : Prop := TextB w g n (flatB (ownsE pre)) X W
theorem TextI.abides (w : World) (g n : Nat) : Abides (TextI w g n) := fun pre X W W' X' h hs => h.step hs
def TextM (w : World) (g n : Nat) (x : S26) (A4 : Option Addr) (c4 : Nat) (A6 : Option Addr) (c6 : Nat) (pre : List NodeE) (y : NodeE) (a₁ : Act) (X : Nat → Prop) (W : World) : Prop :=
 TextI w g n pre X W ∧ ∃ bx, W.heap[bx]? = some (.cells y.a 26 (0, 0)) ∧ ¬ X bx ∧ g + 4 ≤ bx ∧ a₁ = { tmps := #[.agg #[.int .i64 x.f0, .int .i64 x.f1, .int .i64 x.f2, .int .i64 x.f3, .slice A4 x.f4.length c4, .string x.f5, .slice A6 x.f6.length c6], .pointer (some ⟨w.heap.size, 0, none⟩), .string ⟨#[]⟩, .pointer (some ⟨g + 1, 0, none⟩), .pointer (some ⟨g + 1 + 1, 0, none⟩), .pointer (some ⟨bx, 0, none⟩), undef, undef,
   .agg #[.int .i64 x.f0, .int .i64 x.f1, .int .i64 x.f2, .int .i64 x.f3, .slice A4 x.f4.length c4, .string x.f5, .slice A6 x.f6.length c6], .int .i64 (n : Int), .slice (some ⟨g, 0, none⟩) n n, .agg #[.int .i64 x.f0, .int .i64 x.f1, .int .i64 x.f2, .int .i64 x.f3, .slice A4 x.f4.length c4, .string x.f5, .slice A6 x.f6.length c6], .func (.func 49) #[] #[.pointer (some ⟨g + 1 + 1 + 1, 0, none⟩)], y.v, undef, undef, undef, undef, undef, undef, undef, undef, undef, undef, undef, undef, undef, undef, undef, undef, undef], defers := [] }
theorem TextM.abides (w : World) (g n : Nat) (x : S26) (A4 : Option Addr) (c4 : Nat) (A6 : Option Addr) (c6 : Nat) (pre : List NodeE) (y : NodeE) (a₁ : Act) : Abides (fun (_ : Unit) => TextM w g n x A4 c4 A6 c6 pre y a₁) := fun _ X W W' X' h hs => by
 obtain ⟨hI, bx, h1, h2, h3, h4⟩ := h
 exact ⟨hI.step hs, bx, hs.keep h1 h2, hs.keepX (Array.getElem?_eq_some_iff.1 h1).1 h2, h3, h4⟩
theorem TextB.next {w W wr : World} {g N : Nat} {acc : List UInt8} {s : ByteArray} {X : Nat → Prop} {v : Value} {l : List ByteArray} (hgw : w.heap.size ≤ g) (hW : g + 4 ≤ W.heap.size) (ho : TextB w g N acc X wr) (hr : Kd.R Kd.string 9 wr W.heap.size (fun k => W.heap.size ≤ k) v l) (hk : Keeps (fun k => X k ∨ (k < w.heap.size ∨ k = g + 1 + 1 + 1)) W wr)
  (n : Int) (hn : n = ((acc.length + s.size : Nat) : Int)) (hl : acc.length + s.size ≤ N) : TextB w g N (acc ++ s.data.toList) X ((wr.drew.setRow g (rowB N (acc ++ s.data.toList))).setCell ⟨g + 1 + 1, 0, none⟩ (.int .i64 n)) ∧
   Kd.R Kd.string 9 ((wr.drew.setRow g (rowB N (acc ++ s.data.toList))).setCell ⟨g + 1 + 1, 0, none⟩ (.int .i64 n)) W.heap.size (fun k => W.heap.size ≤ k) v l ∧ Keeps (fun k => X k ∨ (k < w.heap.size ∨ k = g + 1 + 1 + 1)) W ((wr.drew.setRow g (rowB N (acc ++ s.data.toList))).setCell ⟨g + 1 + 1, 0, none⟩ (.int .i64 n)) := by
 have hs0 : s.data.toList.length = s.size := Array.length_toList
 have hf : ∀ k, k ≠ g → k ≠ g + 1 + 1 → ((wr.drew.setRow g (rowB N (acc ++ s.data.toList))).setCell ⟨g + 1 + 1, 0, none⟩ (.int .i64 n)).heap[k]? = wr.heap[k]? := fun k h1 h2 =>
  (Below.heap_setCell _ _ _ k h2).trans (setRow_other wr.drew g k _ h1)
 refine ⟨⟨((ho.1.drew.setRow g _ hgw).set _ _ (by simp; omega)), ?_, (hf _ (by omega) (by omega)).trans ho.2.2.1, ?_⟩, Kd.R_step hr (fun k hk hk2 => hf k (by omega) (by omega)), hk.trans ⟨by simp, fun k q hk2 => hf k ?_ ?_⟩⟩
 ·exact (Below.heap_setCell _ _ _ g (show g ≠ g + 1 + 1 by omega)).trans (setRow_heap wr.drew g _ _ _ _ ho.2.1)
 ·have h2 : (wr.drew.setRow g (rowB N (acc ++ s.data.toList))).heap[g + 1 + 1]? = some (.cells #[.int .i64 (acc.length : Int)] 3 (0, 0)) := (setRow_other wr.drew g (g + 1 + 1) _ (by omega)).trans ho.2.2.2
  have h3 := blk_put h2 0 (.int .i64 n) rfl
  rw [List.length_append, hs0, ← hn]
  simpa using h3
 ·rcases q with q | q
  ·have := ho.1.far _ q; omega
  ·omega
 ·rcases q with q | q
  ·have := ho.1.far _ q; omega
  ·omega
theorem cst_Text.calls (a0_0 : Int) (a0_1 : Int) (a0_2 : Int) (a0_3 : Int) (A0_4 : Option Addr) (c0_4 : Nat) (l0_4 : List S46) (a0_5 : ByteArray) (A0_6 : Option Addr) (c0_6 : Nat) (l0_6 : List S26) (r : ByteArray) (w : World) (hr0_4 : Kd.C k46 w A0_4 l0_4.length l0_4) (hc0_4 : l0_4.length ≤ c0_4) (hr0_6 : Kd.C k26 w A0_6 l0_6.length l0_6) (hc0_6 : l0_6.length ≤ c0_6) (h : cst_Text.f a0_0 a0_1 a0_2 a0_3 l0_4 a0_5 l0_6 = some r) :
  Calls Tryd.prog 10 #[.agg #[.int .i64 a0_0, .int .i64 a0_1, .int .i64 a0_2, .int .i64 a0_3, .slice A0_4 l0_4.length c0_4, .string a0_5, .slice A0_6 l0_6.length c0_6]] w fun e w' => e = .returned (.string r) ∧ Below w.heap.size w w' := by
 unfold cst_Text.f at h
 obtain ⟨x, hx⟩ : ∃ x : S26, x = ⟨a0_0, a0_1, a0_2, a0_3, l0_4, a0_5, l0_6⟩ := ⟨_, rfl⟩
 rw [← hx] at h
 obtain rfl : a0_0 = x.f0 := by rw [hx]
 obtain rfl : a0_1 = x.f1 := by rw [hx]
 obtain rfl : a0_2 = x.f2 := by rw [hx]
 obtain rfl : a0_3 = x.f3 := by rw [hx]
 obtain rfl : l0_4 = x.f4 := by rw [hx]
 obtain rfl : a0_5 = x.f5 := by rw [hx]
 obtain rfl : l0_6 = x.f6 := by rw [hx]
 clear hx
 split at h
 case isFalse => cases h
 rename_i hs
 have HP := Aside0.mk (Option.some.inj h)
 have HS := Aside0.mk hs
 clear h hs
 have hok : NodeE.Ok w ⟨x, A0_4, c0_4, A0_6, c0_6⟩ := ⟨hc0_4, hr0_4, hc0_6, hr0_6⟩
 have HOK := Aside0.mk hok
 have R1 := Aside0.mk hr0_4
 have R2 := Aside0.mk hc0_4
 have R3 := Aside0.mk hr0_6
 have R4 := Aside0.mk hc0_6
 clear hr0_4 hc0_4 hr0_6 hc0_6 hok
 refine (callsIn_wide (n := 0)).1 ?_
 refine callsIn_of_wp_marks Tryd.func10 rfl trivial ?_ rfl
 simp only [Tryd.ntmps10, List.size_toArray, List.length_cons, List.length_nil, Nat.reduceAdd, Nat.reduceSub, Array.replicate_succ, Array.replicate_zero, List.push_toArray, List.append_toArray, List.nil_append, List.cons_append]
 obtain ⟨N, hN⟩ : ∃ N, szB ((preN x).flatMap ownOf) = N := ⟨_, rfl⟩
 have hNle : N ≤ 4294967296 := by rw [← hN]; exact HS.out.2.1
 have HN := Aside0.mk hN
 have hlen : cst_Len.f x.f0 x.f1 x.f2 x.f3 x.f4 x.f5 x.f6 = some (N : Int) := by
  unfold cst_Len.f
  rw [show (⟨x.f0, x.f1, x.f2, x.f3, x.f4, x.f5, x.f6⟩ : S26) = x by cases x; rfl, if_pos HS.out]
  exact congrArg (fun n : Nat => some (n : Int)) hN
 have HLEN := Aside0.mk hlen
 have hbx := below_alloc (Below.refl w.heap.size w) (.cells #[.int .i64 x.f0, .int .i64 x.f1, .int .i64 x.f2, .int .i64 x.f3, .slice A0_4 x.f4.length c0_4, .string x.f5, .slice A0_6 x.f6.length c0_6] 26)
 have HBX := Aside0.mk hbx
 clear hlen hN hbx
 gi_wp2
 refine ⟨trivial, rfl, ?_⟩
 refine (callsIn_wide.2 (cst_Len.calls _ _ _ _ _ _ _ _ _ _ _ _ _ (Kd.C_below R1.out HBX.out) R2.out (Kd.C_below R3.out HBX.out) R4.out HLEN.out)).mono ?_
 rintro e w1 ⟨rfl, hB1⟩
 have hmk := text_make w1 N hNle
 have hbw := (hB1.block w.heap.size (by simp)).trans (blk_new w _)
 have hwl : w.heap.size < w1.heap.size := by have h7 := hB1.size; simp at h7; omega
 have hwn : w.heap.size ≠ w1.heap.size := Nat.ne_of_lt hwl
 have hwn2 : w.heap.size ≠ w1.heap.size + 1 := by omega
 have hwn3 : w.heap.size ≠ w1.heap.size + 1 + 1 := by omega
 have hbw3 : (((w1.alloc (.cells (rowB N []) 5)).alloc (.cells #[.slice (some ⟨w1.heap.size, 0, none⟩) N N] 50)).alloc (.cells #[.int .i64 0] 3)).heap[w.heap.size]? = _ := blk_alloc (blk_alloc (blk_alloc hbw _) _) _
 have c0 : (((w1.alloc (.cells (rowB N []) 5)).alloc (.cells #[.slice (some ⟨w1.heap.size, 0, none⟩) N N] 50)).alloc (.cells #[.int .i64 0] 3)).cell? ⟨w.heap.size, 0, none⟩ = some (.int .i64 x.f0) := (blk_cell hbw3 0).trans rfl
 have c1 : (((w1.alloc (.cells (rowB N []) 5)).alloc (.cells #[.slice (some ⟨w1.heap.size, 0, none⟩) N N] 50)).alloc (.cells #[.int .i64 0] 3)).cell? ⟨w.heap.size, 1, none⟩ = some (.int .i64 x.f1) := (blk_cell hbw3 1).trans rfl
 have c2 : (((w1.alloc (.cells (rowB N []) 5)).alloc (.cells #[.slice (some ⟨w1.heap.size, 0, none⟩) N N] 50)).alloc (.cells #[.int .i64 0] 3)).cell? ⟨w.heap.size, 2, none⟩ = some (.int .i64 x.f2) := (blk_cell hbw3 2).trans rfl
 have c3 : (((w1.alloc (.cells (rowB N []) 5)).alloc (.cells #[.slice (some ⟨w1.heap.size, 0, none⟩) N N] 50)).alloc (.cells #[.int .i64 0] 3)).cell? ⟨w.heap.size, 3, none⟩ = some (.int .i64 x.f3) := (blk_cell hbw3 3).trans rfl
 have c4 : (((w1.alloc (.cells (rowB N []) 5)).alloc (.cells #[.slice (some ⟨w1.heap.size, 0, none⟩) N N] 50)).alloc (.cells #[.int .i64 0] 3)).cell? ⟨w.heap.size, 4, none⟩ = some (.slice A0_4 x.f4.length c0_4) := (blk_cell hbw3 4).trans rfl
 have c5 : (((w1.alloc (.cells (rowB N []) 5)).alloc (.cells #[.slice (some ⟨w1.heap.size, 0, none⟩) N N] 50)).alloc (.cells #[.int .i64 0] 3)).cell? ⟨w.heap.size, 5, none⟩ = some (.string x.f5) := (blk_cell hbw3 5).trans rfl
 have c6 : (((w1.alloc (.cells (rowB N []) 5)).alloc (.cells #[.slice (some ⟨w1.heap.size, 0, none⟩) N N] 50)).alloc (.cells #[.int .i64 0] 3)).cell? ⟨w.heap.size, 6, none⟩ = some (.slice A0_6 x.f6.length c0_6) := (blk_cell hbw3 6).trans rfl
 have HBW := Aside0.mk hbw
 clear hbw hbw3
 have HB1 := Aside0.mk (HBX.out.trans (hB1.mono (by simp)))
 clear hB1
 gi_wp2_with (refine ⟨trivial, rfl, ?_⟩; refine (callsIn_wide.2 (all_calls' _ _ _ _ _ _)).mono ?_; rintro e w' ⟨rfl, rfl⟩)
 clear c0 c1 c2 c3 c4 c5 c6 hmk
 obtain ⟨g, hg⟩ : ∃ g, w1.heap.size = g := ⟨_, rfl⟩
 rw [hg] at hwl hwn hwn2 hwn3 ⊢
 have hA := alloc4 w1 (.cells (rowB N []) 5) (.cells #[.slice (some ⟨g, 0, none⟩) N N] 50) (.cells #[.int .i64 0] 3) (.cells #[.int .i64 x.f0, .int .i64 x.f1, .int .i64 x.f2, .int .i64 x.f3, .slice A0_4 x.f4.length c0_4, .string x.f5, .slice A0_6 x.f6.length c0_6] 26)
 obtain ⟨W0, hW0⟩ : ∃ W0, ((((w1.alloc (.cells (rowB N []) 5)).alloc (.cells #[.slice (some ⟨g, 0, none⟩) N N] 50)).alloc (.cells #[.int .i64 0] 3)).alloc (.cells #[.int .i64 x.f0, .int .i64 x.f1, .int .i64 x.f2, .int .i64 x.f3, .slice A0_4 x.f4.length c0_4, .string x.f5, .slice A0_6 x.f6.length c0_6] 26)) = W0 := ⟨_, rfl⟩
 rw [hW0] at hA ⊢
 rw [hg] at hA
 clear hW0
 obtain ⟨hBa, hb0, hb1, hb2, hb3, hz⟩ := hA
 have hB : Below w.heap.size w W0 := HB1.out.trans (hBa.mono (by omega))
 obtain ⟨L, hL1, hL2, hL3⟩ := visits_of w (fun k => k < w.heap.size ∨ k = g + 1 + 1 + 1) (fun k q => .inl q) _ ⟨x, A0_4, c0_4, A0_6, c0_6⟩ (Nat.lt_succ_self _) HOK.out
 have HL1 := Aside0.mk hL1
 have HL2 := Aside0.mk hL2
 have HL3 := Aside0.mk hL3
 clear hL1 hL2 hL3
 refine wp_range (gf := 49) (lb := #[.pointer (some ⟨g + 1 + 1 + 1, 0, none⟩)]) ?hg (enters_of Tryd.func49 (by kernel_rfl) rfl) (all1_gives w W0 ⟨x, A0_4, c0_4, A0_6, c0_6⟩ L _ (fun k q => hB.block k q) hB.size hb3 HL3.out) (Below.refl _ _) (fun _ => rfl)
  (TextI w g N) (fun _ _ _ _ => False) (TextM w g N x A0_4 c0_4 A0_6 c0_6) (TextI.abides w g N) (fun _ _ _ _ _ _ h => h.elim) ?hM ?h0 ?assign ?body ?done ?stop
 case hg => rfl
 case hM => exact fun pre y a₁ => TextM.abides w g N x A0_4 c0_4 A0_6 c0_6 pre y a₁
 case h0 => exact ⟨⟨hB, fun k q => q.elim, by omega, by omega⟩, hb0, hb1, hb2⟩
 case assign =>
  intro l pre y post X W hL hI hX
  have HI := Aside0.mk hI
  have HX := Aside0.mk hX
  clear hL hI hX hb0 hb1 hb2 hb3
  obtain ⟨x2, B4, d4, B6, d6⟩ := y
  simp only [encNode, NodeE.v]
  gi_wp2
  have hI' := TextI.abides w g N pre X W _ X HI.out (IStep.of_below (below_alloc (Below.refl _ _) (.cells #[.int .i64 x2.f0, .int .i64 x2.f1, .int .i64 x2.f2, .int .i64 x2.f3, .slice B4 x2.f4.length d4, .string x2.f5, .slice B6 x2.f6.length d6] 26)))
  exact ⟨.of_below (below_alloc (Below.refl _ _) _), hI', W.heap.size, blk_new W _, fun q => by have := (HX.out _ q).2; omega, HI.out.1.size, rfl⟩
 case body =>
  rintro l pre y post a₁ X W hL ⟨hI, bx, hbx, hnx, hge, rfl⟩ hX
  have hok := (HL2.out y (by rw [hL]; simp)).step (fun k q => hI.1.below.block k q)
  have hlead : y.x.f4.length ≤ 4294967296 := HS.out.1 y.x (by rw [← HL1.out, hL]; simp)
  obtain ⟨x2, B4, d4, B6, d6⟩ := y
  obtain ⟨kq, hkq⟩ := own_ends x2 hlead
  have HI := Aside0.mk hI
  have HL := Aside0.mk hL
  have HK := Aside0.mk hkq
  have O1 := Aside0.mk hok.l4
  have O2 := Aside0.mk hok.g4
  have O3 := Aside0.mk hok.l6
  have O4 := Aside0.mk hok.g6
  simp only [NodeE.a] at hbx
  have c0 : W.cell? ⟨bx, 0, none⟩ = some (.int .i64 x2.f0) := (blk_cell hbx 0).trans rfl
  have c1 : W.cell? ⟨bx, 1, none⟩ = some (.int .i64 x2.f1) := (blk_cell hbx 1).trans rfl
  have c2 : W.cell? ⟨bx, 2, none⟩ = some (.int .i64 x2.f2) := (blk_cell hbx 2).trans rfl
  have c3 : W.cell? ⟨bx, 3, none⟩ = some (.int .i64 x2.f3) := (blk_cell hbx 3).trans rfl
  have c4 : W.cell? ⟨bx, 4, none⟩ = some (.slice B4 x2.f4.length d4) := (blk_cell hbx 4).trans rfl
  have c5 : W.cell? ⟨bx, 5, none⟩ = some (.string x2.f5) := (blk_cell hbx 5).trans rfl
  have c6 : W.cell? ⟨bx, 6, none⟩ = some (.slice B6 x2.f6.length d6) := (blk_cell hbx 6).trans rfl
  clear hI hL hkq hok hlead hb0 hb1 hb2 hb3 hbx hX
  simp only [NodeE.v]
  gi_wp2_with (refine ⟨trivial, rfl, ?_⟩; refine (callsIn_wide.2 (cst_own.calls kq _ _ _ _ _ _ _ _ _ _ _ _ _ O2.out O1.out O4.out O3.out HK.out)).mono ?_; rintro e w2 ⟨v0, rfl, hR, hB2⟩; obtain ⟨A, c, rfl⟩ := Kd.R_slice hR)
  have hI2 := TextI.abides w g N pre X W w2 X HI.out (IStep.of_below hB2)
  have hR2 : Kd.R Kd.string 9 w2 W.heap.size (fun k => W.heap.size ≤ k) (.slice A (ownOf x2).length c) (ownOf x2) := Kd.R_mono (Kd.R_bound hR) (fun k hk => hk.2.1)
  have hk2 : Keeps (fun k => X k ∨ (k < w.heap.size ∨ k = g + 1 + 1 + 1)) W w2 := Keeps.of_below hB2
  have HI2 := Aside0.mk hI2
  have HR2 := Aside0.mk hR2
  have HK2 := Aside0.mk hk2
  clear hR hB2 hI2 hR2 hk2 c0 c1 c2 c3 c4 c5 c6
  have hlen : szB (ownsE pre ++ ownOf x2) ≤ N := by
   have h1 := HN.out
   rw [← HL1.out, ← ownsE_x, HL.out, show pre ++ (⟨x2, B4, d4, B6, d6⟩ : NodeE) :: post = (pre ++ [⟨x2, B4, d4, B6, d6⟩]) ++ post by simp, ownsE_append, ownsE_append, szB_append] at h1
   have h2 : ownsE [(⟨x2, B4, d4, B6, d6⟩ : NodeE)] = ownOf x2 := by simp [ownsE]
   rw [h2] at h1
   omega
  have hsz := HI.out.1.size
  have hne : g + 4 ≤ W.heap.size := hsz
  clear hsz
  gi_loopw [17] (fun v17 wr => ∃ i : Nat, v17 = .int .i64 (i : Int) ∧ i ≤ (ownOf x2).length ∧ TextB w g N (flatB (ownsE pre ++ (ownOf x2).take i)) X wr ∧
   Kd.R Kd.string 9 wr W.heap.size (fun k => W.heap.size ≤ k) (.slice A (ownOf x2).length c) (ownOf x2) ∧ Keeps (fun k => X k ∨ (k < w.heap.size ∨ k = g + 1 + 1 + 1)) W wr) (fun v17 _ => match v17 with | .int _ z => (ownOf x2).length - z.toNat | _ => 0)
  case atStart => exact ⟨0, rfl, Nat.zero_le _, by have := HI2.out; simpa [TextI] using this, HR2.out, HK2.out⟩
  case round =>
   clear HI2 HR2 HK2
   obtain ⟨i, rfl, hi, ho, hr, hk⟩ := hrel
   by_cases hlt : i < (ownOf x2).length
   ·have hlt2 : decide ((i : Int) < ((ownOf x2).length : Int)) = true := decide_eq_true (by omega)
    obtain ⟨ad, e1, q0⟩ := Kd.at_string (Kd.R_reads' hr).2.2 (i : Int) (by omega) (by omega)
    obtain rfl : A = some ad := e1
    have hi2 : ((i : Int)).toNat = i := rfl
    rw [hi2] at q0
    have hs0 : rdOf ByteArray.empty (ownOf x2) (i : Int) = (ownOf x2)[i] := by simp [rdOf, List.getD_eq_getElem?_getD, hlt]
    rw [hs0] at q0
    obtain ⟨s, hs1⟩ : ∃ s, (ownOf x2)[i] = s := ⟨_, rfl⟩
    rw [hs1] at q0
    obtain ⟨acc, ht⟩ : ∃ acc, flatB (ownsE pre ++ (ownOf x2).take i) = acc := ⟨_, rfl⟩
    have hnext : flatB (ownsE pre ++ (ownOf x2).take (i + 1)) = acc ++ s.data.toList := by
     rw [← ht, List.take_add_one, ← List.append_assoc, flatB_append]
     simp [hlt, hs1, flatB]
    have hbd : acc.length + s.size ≤ N := by
     have h1 := szB_le (ownOf x2) (i + 1)
     have h2 := congrArg List.length hnext
     rw [flatB_len, szB_append, List.length_append, show s.data.toList.length = s.size from Array.length_toList] at h2
     rw [szB_append] at hlen
     omega
    rw [ht] at ho
    have hol := ownOf_len x2 (HS.out.1 x2 (by rw [← HL1.out, HL.out]; simp))
    have hm : (ownOf x2).length - (i + 1) < (ownOf x2).length - i := by omega
    have hle : acc.length ≤ N := by omega
    have hgn : g + 1 + 1 ≠ g := by omega
    have hgn2 : g + 1 ≠ g := by omega
    have ew : wrap64 ((acc.length : Int) + (s.size : Int)) = ((acc.length + s.size : Nat) : Int) := by unfold wrap64; omega
    have ew2 : wrap64 ((i : Int) + 1) = ((i + 1 : Nat) : Int) := by unfold wrap64; omega
    have z1 : wr.cell? ⟨g + 1, 0, none⟩ = some (.slice (some ⟨g, 0, none⟩) N N) := (blk_cell ho.2.2.1 0).trans rfl
    have z2 : wr.cell? ⟨g + 1 + 1, 0, none⟩ = some (.int .i64 (acc.length : Int)) := (blk_cell ho.2.2.2 0).trans rfl
    have hsl := fun W : World => Lib.run_slice_tailV (P := Tryd.prog) W 50 5 Tryd.underlying50 u8_size g N acc.length hle
    have hcp := copy_row wr.drew g N acc s ho.2.1 hbd
    have hg2 : (wr.drew.setRow g (rowB N (acc ++ s.data.toList))).heap[g + 1 + 1]? = some (.cells #[.int .i64 (acc.length : Int)] 3 (0, 0)) := (setRow_other wr.drew g (g + 1 + 1) _ hgn).trans ho.2.2.2
    have hg3 : (wr.drew.setRow g (rowB N (acc ++ s.data.toList))).heap[g + 1]? = some (.cells #[.slice (some ⟨g, 0, none⟩) N N] 50 (0, 0)) := (setRow_other wr.drew g (g + 1) _ hgn2).trans ho.2.2.1
    have z3 : (wr.drew.setRow g (rowB N (acc ++ s.data.toList))).cell? ⟨g + 1 + 1, 0, none⟩ = some (.int .i64 (acc.length : Int)) := (blk_cell hg2 0).trans rfl
    have z4 := blk_frozen hg2 0
    have HO := Aside0.mk ho
    have HR := Aside0.mk hr
    have HKK := Aside0.mk hk
    have HNX := Aside0.mk hnext
    have HG2 := Aside0.mk hg2
    have hfin := TextB.next (s := s) (by omega) hne ho hr hk (wrap64 ((acc.length : Int) + (s.size : Int))) ew hbd
    rw [← hnext] at hfin
    have FIN := Aside0.mk hfin
    have hmo : Tryd.prog.follows .mixedOrders = true := by kernel_rfl
    clear ho hr hk hnext hlen hol hs1 ht hbd hg2 hg3 hle hgn hgn2 hfin
    gi_wp2
    gi_region
    all_goals gi_wp2
    all_goals exact ⟨⟨i + 1, by rw [ew2], hlt, by rw [HNX.out] at FIN ⊢; exact FIN.out.1, by rw [HNX.out] at FIN; exact FIN.out.2.1, by rw [HNX.out] at FIN; exact FIN.out.2.2⟩, by rw [ew2]; exact hm⟩
   ·have hlt2 : decide ((i : Int) < ((ownOf x2).length : Int)) = false := decide_eq_false (by omega)
    gi_wp2
    refine ⟨hk, ?_⟩
    obtain rfl : i = (ownOf x2).length := by omega
    rw [List.take_length] at ho
    have h2 : ownsE [(⟨x2, B4, d4, B6, d6⟩ : NodeE)] = ownOf x2 := by simp [ownsE]
    unfold TextI
    rw [ownsE_append, h2]
    exact ho
 case done =>
  rintro X W hI hXD hXb hD
  rw [hz] at hD
  have HI := Aside0.mk hI
  have hL : (flatB (ownsE L)).length = N := by rw [flatB_len, ownsE_x, HL1.out]; exact HN.out
  have c1 : W.cell? ⟨g + 1, 0, none⟩ = some (.slice (some ⟨g, 0, none⟩) N N) := (blk_cell hI.2.2.1 0).trans rfl
  have hcv := row_text W g (flatB (ownsE L)) (by rw [hL]; exact hI.2.1)
  rw [hL] at hcv
  have HD := Aside0.mk hD
  have HLL := Aside0.mk hL
  clear hI hD hXb hXD hb0 hb1 hb2 hb3 hL
  gi_wp2
  refine ret_collected (fun w => results_tmp rfl _ _ _) HD.out ⟨?_, below_collected HI.out.1.below (by omega)⟩
  have h2 := HP.out
  unfold textB at h2
  rw [← HL1.out, ← ownsE_x] at h2
  rw [← h2]
  rfl
 case stop => exact fun c pre X W _ h => h.elim
def triC (p : S46) : List Value := [.int .i64 p.f0, .int .i64 p.f1, .string p.f2]
def trisC (l : List S46) : List Value := l.flatMap triC
theorem trisC_cons (p : S46) (l : List S46) : trisC (p :: l) = triC p ++ trisC l := rfl
theorem trisC_len (l : List S46) : (trisC l).length = l.length * 3 := by
 induction l with
 | nil => rfl
 | cons p l ih => rw [trisC_cons, List.length_append, ih, List.length_cons]; simp [triC]; omega
theorem trisC_drop (l : List S46) : ∀ (j : Nat) (p : S46), l[j]? = some p → ((trisC l).drop (j * 3)).take 3 = triC p := by
 induction l with
 | nil => intro j p h; simp at h
 | cons q l ih =>
  intro j p h
  cases j with
  | zero => simp at h; subst h; simp [trisC_cons, triC]
  | succ j =>
   rw [trisC_cons, Nat.succ_mul, Nat.add_comm, ← List.drop_drop]
   have : (triC q ++ trisC l).drop 3 = trisC l := by simp [triC]
   rw [this]
   exact ih j p (by simpa using h)
theorem trisC_one (l : List S46) : ∀ v ∈ trisC l, v.oneCell' = true := by
 intro v hv
 obtain ⟨p, _, h⟩ := List.mem_flatMap.1 hv
 simp only [triC, List.mem_cons, List.not_mem_nil, or_false] at h
 rcases h with rfl | rfl | rfl <;> rfl
theorem trisC_get (l : List S46) (j : Nat) (v : Value) (h : (trisC l)[j]? = some v) : ∃ p, l[j / 3]? = some p ∧ (triC p)[j % 3]? = some v := by
 have hj : j < (trisC l).length := (List.getElem?_eq_some_iff.1 h).1
 rw [trisC_len] at hj
 have hq : j / 3 < l.length := by omega
 refine ⟨l[j / 3], List.getElem?_eq_getElem hq, ?_⟩
 rw [← trisC_drop l (j / 3) _ (List.getElem?_eq_getElem hq), List.getElem?_take_of_lt (by omega), List.getElem?_drop, show j / 3 * 3 + j % 3 = j by omega]
 exact h
theorem tris_cells {w : World} {A : Option Addr} {l : List S46} (h : Kd.C k46 w A l.length l) (ad : Addr) (ha : A = some ad) : ∀ j v, (trisC l)[j]? = some v → w.cell? (ad.add j) = some v := by
 intro j v hv
 obtain ⟨p, hp, hc⟩ := trisC_get l j v hv
 obtain ⟨ad2, e, hcell⟩ := h.2.2 (by have := (List.getElem?_eq_some_iff.1 hp).1; omega)
 rw [ha] at e
 cases e
 obtain ⟨c, _, hK, hcc⟩ := hcell _ p hp
 obtain rfl := k46_open hK
 have := hcc (j % 3) v hc
 rwa [show j / 3 * k46.sz + j % 3 = j from by show j / 3 * 3 + j % 3 = j; omega] at this
theorem tris_R {w : World} {base g : Nat} {ok : Nat → Prop} {l : List S46} (hh : w.heap[g]? = some (.cells (trisC l).toArray 46 (0, 0))) (hb : base ≤ g) (hok : ok g) (hm : l.length ≤ 9223372036854775807) :
  Kd.R k46 46 w base ok (.slice (some ⟨g, 0, none⟩) l.length l.length) l :=
 row_R k46 hh hb hok hm ⟨trisC_len l, fun j p hp => by
  have := trisC_drop l j p hp
  show k46.M w base _ p (((trisC l).drop (j * 3)).take 3)
  rw [this]
  exact k46_mkM w base _ p⟩
theorem info_tri : (Tryd.prog.info? 46).map (fun i => (i.zero, i.size, i.bytes)) = some (some (Value.agg #[.int .i64 0, .int .i64 0, .string ⟨#[]⟩]), 3, 32) := by kernel_rfl
theorem tri_make (w : World) (n : Nat) (hn : n ≤ 4294967296) : ∃ row : Array Value, row.size = n * 3 ∧ (Instr.makeSlice 23 (.int .i64 (n : Int)) (.int .i64 (n : Int))).run Tryd.prog w = .ok (.slice (some ⟨w.heap.size, 0, none⟩) n n) (w.alloc (.cells row 46)) := by
 obtain ⟨i0, hi, hzz⟩ := Option.map_eq_some_iff.1 info_tri
 simp only [Prod.mk.injEq] at hzz
 obtain ⟨hz0, hz1, hz2⟩ := hzz
 have hr := run_make (P := Tryd.prog) w 23 46 i0 (Value.agg #[.int .i64 0, .int .i64 0, .string ⟨#[]⟩]) Tryd.underlying23 hi hz0 .i64 .i64 (n : Int) (n : Int) (by omega) (by omega) (by rw [hz2]; omega) (by omega)
 refine ⟨madeCells (Value.agg #[.int .i64 0, .int .i64 0, .string ⟨#[]⟩]).cells (n * 3), size_madeCells _ _, ?_⟩
 rw [hr]
 simp only [Int.toNat_natCast, hz1]
theorem copy_tris (w : World) (g : Nat) (row : Array Value) (A : Option Addr) (c : Nat) (l : List S46) (hg : w.heap[g]? = some (.cells row 46 (0, 0))) (hrow : row.size = l.length * 3) (hC : Kd.C k46 w A l.length l) :
  (Builtin.copy_ #[23, 23] 3 #[.slice (some ⟨g, 0, none⟩) l.length l.length, .slice A l.length c]).run Tryd.prog w = .ok (goInt l.length) (w.setRow g (trisC l).toArray) := by
 have hs0 : (Tryd.prog.info? 46).map (·.size) = some 3 := by kernel_rfl
 have hu := Tryd.underlying23
 have hlen := trisC_len l
 cases hq : Tryd.prog.info? 46 with
 | none => simp [hq] at hs0
 | some i =>
  have hi : i.size = 3 := by simpa [hq] using hs0
  have hmin : Nat.min l.length l.length = l.length := Nat.min_self _
  cases A with
  | none =>
   have h0 : l.length = 0 := by
    rcases Nat.eq_zero_or_pos l.length with h | h
    ·exact h
    ·obtain ⟨ad, e, _⟩ := hC.2.2 h; cases e
   have hl0 : l = [] := List.eq_nil_of_length_eq_zero h0
   subst hl0
   have hr0 : row = #[] := Array.eq_empty_of_size_eq_zero (by simpa using hrow)
   subst hr0
   simp [Builtin.copy_, run_underlying hu, Builtin.lenOf, Builtin.firstCells, sizeOf, typeInfo, hq, storeCells, trisC]
   exact (setRow_self w g #[] 46 (0, 0) hg).symm
  | some a =>
   have hl := run_loadCells_list (P := Tryd.prog) w a (trisC l) (tris_cells hC a rfl)
   have hst := run_storeCells_at Tryd.prog g 0 46 (trisC l) 0 row w hg (by simp; omega) (trisC_one l)
   have e2 : l.length * 3 = (trisC l).length := hlen.symm
   simp [Builtin.copy_, run_underlying hu, Builtin.lenOf, Builtin.firstCells, sizeOf, typeInfo, hq, hi, hmin, e2, hl]
   simp only [Nat.zero_add, Nat.add_zero] at hst
   have e3 : row.toList.drop (0 + (trisC l).length) = [] := List.drop_of_length_le (by simp; omega)
   have e5 : row.toList.drop (trisC l).length = [] := List.drop_of_length_le (by simp; omega)
   have e4 : (row.toList.take 0 ++ trisC l ++ row.toList.drop (0 + (trisC l).length)).toArray = (trisC l).toArray := by rw [e3]; simp
   have hst2 : (storeCells ⟨g, 0, none⟩ (trisC l)).run Tryd.prog w = .ok () (w.setRow g (trisC l).toArray) := by
    first
     | (rw [hst]; simp [e3]; done)
     | (rw [hst]; simpa using e4)
     | (simpa [e5] using hst)
   rw [hst2]
   rfl
def cst_clone.R (e : NodeE) (w : World) (r : Ending) (w' : World) : Prop := ∃ g : Nat, r = .returned (.agg #[.int .i64 e.x.f0, .int .i64 e.x.f1, .int .i64 e.x.f2, .int .i64 e.x.f3, .slice (some ⟨g, 0, none⟩) e.x.f4.length e.x.f4.length, .string e.x.f5, .slice none 0 0]) ∧
  w.heap.size ≤ g ∧ w'.heap[g]? = some (.cells (trisC e.x.f4).toArray 46 (0, 0)) ∧ Below w.heap.size w w'
theorem cst_clone.runs (e : NodeE) (w : World) (he : e.Ok w) (hn : e.x.f4.length ≤ 4294967296) : Calls Tryd.prog 34 #[e.v] w (cst_clone.R e w) := by
 obtain ⟨x, A4, c4, A6, c6⟩ := e
 have hC := he.g4
 simp only at hC hn
 simp only [NodeE.v]
 obtain ⟨W1, hW1⟩ : ∃ W1, (w.alloc (.cells #[.int .i64 x.f0, .int .i64 x.f1, .int .i64 x.f2, .int .i64 x.f3, .slice A4 x.f4.length c4, .string x.f5, .slice A6 x.f6.length c6] 26)).alloc (.cells #[.int .i64 0, .int .i64 0, .int .i64 0, .int .i64 0, .slice none 0 0, .string ⟨#[]⟩, .slice none 0 0] 26) = W1 := ⟨_, rfl⟩
 obtain ⟨row, hrow, hmk⟩ := tri_make W1 x.f4.length hn
 have hs1 : W1.heap.size = w.heap.size + 2 := by rw [← hW1]; simp
 have hB1 : Below w.heap.size w W1 := by rw [← hW1]; exact below_alloc (below_alloc (Below.refl _ _) _) _
 have hB2 : Below w.heap.size w (W1.alloc (.cells row 46)) := below_alloc hB1 _
 have hcp := copy_tris (W1.alloc (.cells row 46)) W1.heap.size row A4 c4 x.f4 (blk_new W1 _) hrow (Kd.C_below hC hB2)
 rw [hs1] at hmk hcp
 have h10 : W1.heap[w.heap.size]? = some (.cells #[.int .i64 x.f0, .int .i64 x.f1, .int .i64 x.f2, .int .i64 x.f3, .slice A4 x.f4.length c4, .string x.f5, .slice A6 x.f6.length c6] 26 (0, 0)) := by rw [← hW1]; exact blk_alloc (blk_new w _) _
 have h11 : W1.heap[w.heap.size + 1]? = some (.cells #[.int .i64 0, .int .i64 0, .int .i64 0, .int .i64 0, .slice none 0 0, .string ⟨#[]⟩, .slice none 0 0] 26 (0, 0)) := by
  rw [← hW1]
  have := blk_new (w.alloc (.cells #[.int .i64 x.f0, .int .i64 x.f1, .int .i64 x.f2, .int .i64 x.f3, .slice A4 x.f4.length c4, .string x.f5, .slice A6 x.f6.length c6] 26)) (.cells #[.int .i64 0, .int .i64 0, .int .i64 0, .int .i64 0, .slice none 0 0, .string ⟨#[]⟩, .slice none 0 0] 26)
  simpa using this
 have a4 : W1.cell? ⟨w.heap.size, 4, none⟩ = some (.slice A4 x.f4.length c4) := (blk_cell h10 4).trans rfl
 have h20 := blk_alloc h10 (.cells row 46)
 have h21 := blk_alloc h11 (.cells row 46)
 have b4 : (W1.alloc (.cells row 46)).cell? ⟨w.heap.size, 4, none⟩ = some (.slice A4 x.f4.length c4) := (blk_cell h20 4).trans rfl
 obtain ⟨W3, hW3⟩ : ∃ W3, (W1.alloc (.cells row 46)).setRow (w.heap.size + 2) (trisC x.f4).toArray = W3 := ⟨_, rfl⟩
 rw [hW3] at hcp
 have hB3 : Below w.heap.size w W3 := by rw [← hW3]; exact hB2.trans ⟨rfl, rfl, rfl, by simp, fun k hk => setRow_other _ _ _ _ (by omega)⟩
 have h30 : W3.heap[w.heap.size]? = some (.cells #[.int .i64 x.f0, .int .i64 x.f1, .int .i64 x.f2, .int .i64 x.f3, .slice A4 x.f4.length c4, .string x.f5, .slice A6 x.f6.length c6] 26 (0, 0)) := by rw [← hW3]; exact (setRow_other _ _ _ _ (by omega)).trans h20
 have h31 : W3.heap[w.heap.size + 1]? = some (.cells #[.int .i64 0, .int .i64 0, .int .i64 0, .int .i64 0, .slice none 0 0, .string ⟨#[]⟩, .slice none 0 0] 26 (0, 0)) := by rw [← hW3]; exact (setRow_other _ _ _ _ (by omega)).trans h21
 have h32 : W3.heap[w.heap.size + 2]? = some (.cells (trisC x.f4).toArray 46 (0, 0)) := by
  rw [← hW3]
  have h22 := blk_new W1 (.cells row 46)
  rw [hs1] at h22
  exact setRow_heap _ _ _ _ _ _ h22
 have p0 : W3.cell? ⟨w.heap.size, 0, none⟩ = some (.int .i64 x.f0) := (blk_cell h30 0).trans rfl
 have p1 : W3.cell? ⟨w.heap.size, 1, none⟩ = some (.int .i64 x.f1) := (blk_cell h30 1).trans rfl
 have p2 : W3.cell? ⟨w.heap.size, 2, none⟩ = some (.int .i64 x.f2) := (blk_cell h30 2).trans rfl
 have p3 : W3.cell? ⟨w.heap.size, 3, none⟩ = some (.int .i64 x.f3) := (blk_cell h30 3).trans rfl
 have p4 : W3.cell? ⟨w.heap.size, 4, none⟩ = some (.slice A4 x.f4.length c4) := (blk_cell h30 4).trans rfl
 have p5 : W3.cell? ⟨w.heap.size, 5, none⟩ = some (.string x.f5) := (blk_cell h30 5).trans rfl
 have p6 : W3.cell? ⟨w.heap.size, 6, none⟩ = some (.slice A6 x.f6.length c6) := (blk_cell h30 6).trans rfl
 have q0 : W3.cell? ⟨w.heap.size + 1, 0, none⟩ = some (.int .i64 0) := (blk_cell h31 0).trans rfl
 have q1 : W3.cell? ⟨w.heap.size + 1, 1, none⟩ = some (.int .i64 0) := (blk_cell h31 1).trans rfl
 have q2 : W3.cell? ⟨w.heap.size + 1, 2, none⟩ = some (.int .i64 0) := (blk_cell h31 2).trans rfl
 have q3 : W3.cell? ⟨w.heap.size + 1, 3, none⟩ = some (.int .i64 0) := (blk_cell h31 3).trans rfl
 have q4 : W3.cell? ⟨w.heap.size + 1, 4, none⟩ = some (.slice none 0 0) := (blk_cell h31 4).trans rfl
 have q5 : W3.cell? ⟨w.heap.size + 1, 5, none⟩ = some (.string ⟨#[]⟩) := (blk_cell h31 5).trans rfl
 have q6 : W3.cell? ⟨w.heap.size + 1, 6, none⟩ = some (.slice none 0 0) := (blk_cell h31 6).trans rfl
 have f0 := blk_frozen h30 0
 have g0 := blk_frozen h31 0
 have f1 := blk_frozen h30 1
 have g1 := blk_frozen h31 1
 have f2 := blk_frozen h30 2
 have g2 := blk_frozen h31 2
 have f3 := blk_frozen h30 3
 have g3 := blk_frozen h31 3
 have f4 := blk_frozen h30 4
 have g4 := blk_frozen h31 4
 have f5 := blk_frozen h30 5
 have g5 := blk_frozen h31 5
 have f6 := blk_frozen h30 6
 have g6 := blk_frozen h31 6
 have H31 := Aside0.mk h31
 have H32 := Aside0.mk h32
 have HB3 := Aside0.mk hB3
 clear h10 h11 h20 h21 h30 h31 h32 hB1 hB2 hB3 hW3 hrow hC he
 go_enter Tryd.func34, Tryd.ntmps34
 go_wp2
 have e0 := blk_far (blk_far H31.out (p := ⟨w.heap.size, 4, none⟩) (by simp) (.slice (some ⟨w.heap.size + 2, 0, none⟩) x.f4.length x.f4.length)) (p := ⟨w.heap.size, 6, none⟩) (by simp) (.slice none 0 0)
 have e1 := blk_put (blk_put (blk_put (blk_put (blk_put (blk_put (blk_put e0 0 (.int .i64 x.f0) rfl) 1 (.int .i64 x.f1) rfl) 2 (.int .i64 x.f2) rfl) 3 (.int .i64 x.f3) rfl) 4 (.slice (some ⟨w.heap.size + 2, 0, none⟩) x.f4.length x.f4.length) rfl) 5 (.string x.f5) rfl) 6 (.slice none 0 0) rfl
 have e2 : ∀ (k : Nat), k ≠ w.heap.size → k ≠ w.heap.size + 1 → (((((((((W3.setCell ⟨w.heap.size, 4, none⟩ (.slice (some ⟨w.heap.size + 2, 0, none⟩) x.f4.length x.f4.length)).setCell ⟨w.heap.size, 6, none⟩ (.slice none 0 0)).setCell ⟨w.heap.size + 1, 0, none⟩ (.int .i64 x.f0)).setCell ⟨w.heap.size + 1, 1, none⟩ (.int .i64 x.f1)).setCell ⟨w.heap.size + 1, 2, none⟩ (.int .i64 x.f2)).setCell ⟨w.heap.size + 1, 3, none⟩ (.int .i64 x.f3)).setCell ⟨w.heap.size + 1, 4, none⟩ (.slice (some ⟨w.heap.size + 2, 0, none⟩) x.f4.length x.f4.length)).setCell ⟨w.heap.size + 1, 5, none⟩ (.string x.f5)).setCell ⟨w.heap.size + 1, 6, none⟩ (.slice none 0 0)).heap[k]? = W3.heap[k]? := fun k h1 h2 => by
  refine (Below.heap_setCell _ _ _ k h2).trans ((Below.heap_setCell _ _ _ k h2).trans ((Below.heap_setCell _ _ _ k h2).trans ((Below.heap_setCell _ _ _ k h2).trans ((Below.heap_setCell _ _ _ k h2).trans ((Below.heap_setCell _ _ _ k h2).trans ((Below.heap_setCell _ _ _ k h2).trans ((Below.heap_setCell _ _ _ k h1).trans (Below.heap_setCell _ _ _ k h1))))))))
 have eB : Below w.heap.size w (((((((((W3.setCell ⟨w.heap.size, 4, none⟩ (.slice (some ⟨w.heap.size + 2, 0, none⟩) x.f4.length x.f4.length)).setCell ⟨w.heap.size, 6, none⟩ (.slice none 0 0)).setCell ⟨w.heap.size + 1, 0, none⟩ (.int .i64 x.f0)).setCell ⟨w.heap.size + 1, 1, none⟩ (.int .i64 x.f1)).setCell ⟨w.heap.size + 1, 2, none⟩ (.int .i64 x.f2)).setCell ⟨w.heap.size + 1, 3, none⟩ (.int .i64 x.f3)).setCell ⟨w.heap.size + 1, 4, none⟩ (.slice (some ⟨w.heap.size + 2, 0, none⟩) x.f4.length x.f4.length)).setCell ⟨w.heap.size + 1, 5, none⟩ (.string x.f5)).setCell ⟨w.heap.size + 1, 6, none⟩ (.slice none 0 0)) := by
  refine ((((((((HB3.out.setCell ?_ _).setCell ?_ _).setCell ?_ _).setCell ?_ _).setCell ?_ _).setCell ?_ _).setCell ?_ _).setCell ?_ _).setCell ?_ _ <;> simp
 obtain ⟨W4, hW4⟩ : ∃ W4, (((((((((W3.setCell ⟨w.heap.size, 4, none⟩ (.slice (some ⟨w.heap.size + 2, 0, none⟩) x.f4.length x.f4.length)).setCell ⟨w.heap.size, 6, none⟩ (.slice none 0 0)).setCell ⟨w.heap.size + 1, 0, none⟩ (.int .i64 x.f0)).setCell ⟨w.heap.size + 1, 1, none⟩ (.int .i64 x.f1)).setCell ⟨w.heap.size + 1, 2, none⟩ (.int .i64 x.f2)).setCell ⟨w.heap.size + 1, 3, none⟩ (.int .i64 x.f3)).setCell ⟨w.heap.size + 1, 4, none⟩ (.slice (some ⟨w.heap.size + 2, 0, none⟩) x.f4.length x.f4.length)).setCell ⟨w.heap.size + 1, 5, none⟩ (.string x.f5)).setCell ⟨w.heap.size + 1, 6, none⟩ (.slice none 0 0)) = W4 := ⟨_, rfl⟩
 rw [hW4] at e1 e2 eB ⊢
 have e32 := (e2 (w.heap.size + 2) (by omega) (by omega)).trans H32.out
 clear p0 p1 p2 p3 p4 p5 p6 q0 q1 q2 q3 q4 q5 q6 hmk hcp
 have r0 : W4.cell? ⟨w.heap.size + 1, 0, none⟩ = some (.int .i64 x.f0) := (blk_cell e1 0).trans rfl
 have r1 : W4.cell? ⟨w.heap.size + 1, 1, none⟩ = some (.int .i64 x.f1) := (blk_cell e1 1).trans rfl
 have r2 : W4.cell? ⟨w.heap.size + 1, 2, none⟩ = some (.int .i64 x.f2) := (blk_cell e1 2).trans rfl
 have r3 : W4.cell? ⟨w.heap.size + 1, 3, none⟩ = some (.int .i64 x.f3) := (blk_cell e1 3).trans rfl
 have r4 : W4.cell? ⟨w.heap.size + 1, 4, none⟩ = some (.slice (some ⟨w.heap.size + 2, 0, none⟩) x.f4.length x.f4.length) := (blk_cell e1 4).trans rfl
 have r5 : W4.cell? ⟨w.heap.size + 1, 5, none⟩ = some (.string x.f5) := (blk_cell e1 5).trans rfl
 have r6 : W4.cell? ⟨w.heap.size + 1, 6, none⟩ = some (.slice none 0 0) := (blk_cell e1 6).trans rfl
 refine bodyPost_ret (v := .agg #[.int .i64 x.f0, .int .i64 x.f1, .int .i64 x.f2, .int .i64 x.f3, .slice (some ⟨w.heap.size + 2, 0, none⟩) x.f4.length x.f4.length, .string x.f5, .slice none 0 0]) ?_ rfl ?_
 ·simp [results, Tryd.f34, go_sem, r0, r1, r2, r3, r4, r5, r6]
 ·exact ⟨w.heap.size + 2, rfl, by omega, e32, eB⟩
end
theorem count_set (l : List Bool) (i : Nat) (h : l[i]? = some false) : (l.set i true).count false + 1 = l.count false := by
 induction l generalizing i with
 | nil => simp at h
 | cons b l ih =>
  cases i with
  | zero => simp at h; subst h; simp
  | succ i =>
   have := ih i (by simpa using h)
   simp only [List.set_cons_succ, List.count_cons]
   omega
theorem ready_false {md : Region.Mode} {ops : Array Oper} {listed : Array Bool} {i : Nat} (hz : listed.size = ops.size) (h : i ∈ Region.ready md ops listed) : listed.toList[i]? = some false ∧ ∃ o, ops[i]? = some o ∧ ∀ e ∈ o.after, Region.binds md e = true → listed.getD e.on false = true := by
 obtain ⟨h1, o, h2, h3⟩ := mem_ready.1 h
 have hi : i < ops.size := (Array.getElem?_eq_some_iff.1 h2).1
 refine ⟨?_, o, h2, h3⟩
 have hl : i < listed.size := by omega
 rw [Array.getElem?_toList, Array.getElem?_eq_getElem hl]
 simpa [Array.getD, hl] using h1
theorem wpAnyIn_inv {F : Fence} {n : Nat} {P : Program} {md : Region.Mode} {ops : Array Oper} {Q : Exit → Act → World → Prop} (J : Array Bool → Act → World → Prop)
  (hstep : ∀ listed a w i, listed.size = ops.size → J listed a w → i ∈ Region.ready md ops listed → wpOpIn F n P ops Q i (J (listed.setIfInBounds i true)) a w)
  (hend : ∀ listed a w, listed.size = ops.size → J listed a w → Region.ready md ops listed = [] → Q .normal a w) :
  ∀ fuel listed a w, listed.size = ops.size → listed.toList.count false ≤ fuel → J listed a w → wpAnyIn F n P md ops Q fuel listed a w := by
 intro fuel
 induction fuel with
 | zero =>
  intro listed a w hz hc hJ
  have h0 : Region.ready md ops listed = [] := by
   rcases hr : Region.ready md ops listed with _ | ⟨i, r⟩
   ·rfl
   ·have hm := (ready_false (i := i) hz (by rw [hr]; exact List.mem_cons_self)).1
    have h1 : 0 < listed.toList.count false := List.count_pos_iff.2 (List.mem_of_getElem? hm)
    omega
  exact ⟨h0, hend listed a w hz hJ h0⟩
 | succ fuel ih =>
  intro listed a w hz hc hJ
  refine ⟨fun h0 => hend listed a w hz hJ h0, fun i hi => ?_⟩
  have hm := (ready_false hz hi).1
  have hcs := count_set listed.toList i hm
  refine wpOpIn_mono (fun a' w' h => ih _ a' w' (by simpa using hz) ?_ h) (hstep listed a w i hz hJ hi)
  have e : (listed.setIfInBounds i true).toList = listed.toList.set i true := by simp
  rw [e]
  omega
theorem region_inv {F : Fence} {n : Nat} {P : Program} {ops : Array Oper} {Q : Exit → Act → World → Prop} {id : Nat} {a : Act} {w : World} (hm : P.follows .mixedOrders = true) (J : Array Bool → Act → World → Prop)
  (h0 : J (Array.replicate ops.size false) a w.drew)
  (hstep : ∀ listed a w i, listed.size = ops.size → J listed a w → i ∈ Region.ready .any ops listed → wpOpIn F n P ops Q i (J (listed.setIfInBounds i true)) a w)
  (hend : ∀ listed a w, listed.size = ops.size → J listed a w → Region.ready .any ops listed = [] → Q .normal a w) : (Code.region id ops true).wpIn F n P Q a w :=
 wpIn_region_any hm (wpAnyIn_inv J hstep hend _ _ _ _ (by simp) (by simp) h0)
theorem wpIn_of_wp {P : Program} {o : Oper} {a : Act} {w : World} {K : Act → World → Prop} {Q : Exit → Act → World → Prop} (l : Nat) (hnd : ∀ c, o.op ≠ .defer c) (h : o.wp P a w K Q) : o.wpIn (Fence.wide.inRound l) 0 P a w K Q := by
 refine ⟨fun _ _ => trivial, ?_⟩
 rw [Oper.semAt_eq _ _ _ hnd]
 unfold Oper.wp at h
 generalize (execOp a.eval o).run P w = r at h ⊢
 cases r with
 | ok x w' =>
  cases x <;> simp only [Oper.upon, Oper.uponIn] at h ⊢ <;> first | exact h | skip
  ·exact ⟨fun q => by simp [Fence.wide] at q, callsIn_wide.2 h⟩
  ·exact ⟨fun q => by simp [Fence.wide] at q, fun c cs _ => by
    obtain ⟨v, w2, h1, h2⟩ := h c cs
    exact ⟨v, w2, h1, stepsIn_wide.2 h2⟩⟩
 | halt x w' => cases x <;> simp only [Oper.upon, Oper.uponIn] at h ⊢ <;> first | exact h | skip
section
open Go.Shelf Go.Proofs.YtphmgaijkdflnaaDoorW.PrintWords Go.Proofs.YtphmgaijkdflnaaDoorW.PrintLast Go.Proofs.YtphmgaijkdflnaaDoorW.PrintMore
open Go.Maps
attribute [local go_sem] Oper.semAt_some
def leafOf (y : S26) : S26 := ⟨y.f0, y.f1, y.f2, y.f3, y.f4, y.f5, []⟩
def leavesE (l : List NodeE) : List S26 := (l.filter (fun e => decide (0 ≤ e.x.f0))).map (fun e => leafOf e.x)
def leavesN (x : S26) : List S26 := ((preN x).filter (fun y => decide (0 ≤ y.f0))).map leafOf
def LeavesB (w : World) (acc : List S26) (nb : Nat → Prop) (X : Nat → Prop) (W : World) : Prop := OwnI w (w.heap.size + 3) X W ∧ ∃ (v : Value) (ok : Nat → Prop), W.heap[w.heap.size + 1]? = some (.cells #[v] 24 (0, 0)) ∧ (∀ k, ok k → w.heap.size + 3 ≤ k ∧ ¬ X k ∧ ¬ nb k) ∧ Kd.R k26 26 W w.heap.size ok v acc
theorem LeavesB.step2 {w : World} {acc : List S26} {nb nb' X X' : Nat → Prop} {W W' : World} (h : LeavesB w acc nb X W) (hs : IStep X W W' X') (hn : ∀ k, k < W.heap.size → ¬ nb k → ¬ nb' k) : LeavesB w acc nb' X' W' := by
 obtain ⟨ho, v, ok, h1, h2, h3⟩ := h
 refine ⟨ho.step hs, v, fun k => ok k ∧ k < W.heap.size, ho.keep hs (by omega) h1, fun k hk => ⟨(h2 k hk.1).1, hs.keepX hk.2 (h2 k hk.1).2.1, hn k hk.2 (h2 k hk.1).2.2⟩, ?_⟩
 exact Kd.R_step (Kd.R_mono (Kd.R_bound h3) (fun k hk => ⟨hk.1, hk.2.2.1⟩)) (fun k hk _ => hs.block k hk.2 (h2 k hk.1).2.1)
theorem LeavesB.step {w : World} {acc : List S26} {nb X X' : Nat → Prop} {W W' : World} (h : LeavesB w acc nb X W) (hs : IStep X W W' X') : LeavesB w acc nb X' W' := h.step2 hs (fun _ _ q => q)
def LeavesI (w : World) (pre : List NodeE) (X : Nat → Prop) (W : World) : Prop := LeavesB w (leavesE pre) (fun _ => False) X W
theorem LeavesI.abides (w : World) : Abides (LeavesI w) := fun pre X W W' X' h hs => LeavesB.step h hs
def LeavesM (w : World) (x : S26) (A4 : Option Addr) (c4 : Nat) (A6 : Option Addr) (c6 : Nat) (pre : List NodeE) (y : NodeE) (a₁ : Act) (X : Nat → Prop) (W : World) : Prop :=
 ∃ bx, LeavesB w (leavesE pre) (fun k => k = bx) X W ∧ W.heap[bx]? = some (.cells y.a 26 (0, 0)) ∧ ¬ X bx ∧ w.heap.size + 3 ≤ bx ∧ a₁ = { tmps := #[.agg #[.int .i64 x.f0, .int .i64 x.f1, .int .i64 x.f2, .int .i64 x.f3, .slice A4 x.f4.length c4, .string x.f5, .slice A6 x.f6.length c6], .pointer (some ⟨w.heap.size, 0, none⟩), .slice none 0 0, .pointer (some ⟨w.heap.size + 1, 0, none⟩), .pointer (some ⟨bx, 0, none⟩),
   .agg #[.int .i64 x.f0, .int .i64 x.f1, .int .i64 x.f2, .int .i64 x.f3, .slice A4 x.f4.length c4, .string x.f5, .slice A6 x.f6.length c6], .func (.func 49) #[] #[.pointer (some ⟨w.heap.size + 1 + 1, 0, none⟩)], y.v, undef, undef, undef, undef, undef, undef, undef, undef, undef, undef, undef], defers := [] }
theorem LeavesM.abides (w : World) (x : S26) (A4 : Option Addr) (c4 : Nat) (A6 : Option Addr) (c6 : Nat) (pre : List NodeE) (y : NodeE) (a₁ : Act) : Abides (fun (_ : Unit) => LeavesM w x A4 c4 A6 c6 pre y a₁) := fun _ X W W' X' h hs => by
 obtain ⟨bx, hI, h1, h2, h3, h4⟩ := h
 exact ⟨bx, hI.step hs, hs.keep h1 h2, hs.keepX (Array.getElem?_eq_some_iff.1 h1).1 h2, h3, h4⟩
def cst_Leaves.f (a0_0 : Int) (a0_1 : Int) (a0_2 : Int) (a0_3 : Int) (l0_4 : List S46) (a0_5 : ByteArray) (l0_6 : List S26) : Option (List S26) :=
 if Mild ⟨a0_0, a0_1, a0_2, a0_3, l0_4, a0_5, l0_6⟩ then some (leavesN ⟨a0_0, a0_1, a0_2, a0_3, l0_4, a0_5, l0_6⟩) else none
theorem arr9 (a : Array Bool) (h : a.size = 9) : ∃ b0 b1 b2 b3 b4 b5 b6 b7 b8, a = #[b0, b1, b2, b3, b4, b5, b6, b7, b8] := by
 obtain ⟨l⟩ := a
 simp only [List.size_toArray] at h
 match l, h with
 | [b0, b1, b2, b3, b4, b5, b6, b7, b8], _ => exact ⟨b0, b1, b2, b3, b4, b5, b6, b7, b8, rfl⟩
theorem step_wp {c A B : Prop} {d : Decidable c} (hc : c) (h : @ite _ c d A B) : A := by rwa [if_pos hc] at h
theorem add0 (g n : Nat) : Addr.add ⟨g, 0, none⟩ n = ⟨g, n, none⟩ := by
 unfold Addr.add
 split
 ·rename_i h; subst h; rfl
 ·simp
def zeroN : List Value := [.int .i64 0, .int .i64 0, .int .i64 0, .int .i64 0, .slice none 0 0, .string ⟨#[]⟩, .slice none 0 0]
def LvAct (w : World) (x : S26) (A4 : Option Addr) (c4 : Nat) (A6 : Option Addr) (c6 : Nat) (x2 : S26) (B4 : Option Addr) (d4 : Nat) (B6 : Option Addr) (d6 : Nat) (bx : Nat) (t11 t12 t13 t14 t15 t16 t17 : Value) : Act :=
 { tmps := #[.agg #[.int .i64 x.f0, .int .i64 x.f1, .int .i64 x.f2, .int .i64 x.f3, .slice A4 x.f4.length c4, .string x.f5, .slice A6 x.f6.length c6], .pointer (some ⟨w.heap.size, 0, none⟩), .slice none 0 0, .pointer (some ⟨w.heap.size + 1, 0, none⟩), .pointer (some ⟨bx, 0, none⟩), .agg #[.int .i64 x.f0, .int .i64 x.f1, .int .i64 x.f2, .int .i64 x.f3, .slice A4 x.f4.length c4, .string x.f5, .slice A6 x.f6.length c6], .func (.func 49) #[] #[.pointer (some ⟨w.heap.size + 1 + 1, 0, none⟩)],
   .agg #[.int .i64 x2.f0, .int .i64 x2.f1, .int .i64 x2.f2, .int .i64 x2.f3, .slice B4 x2.f4.length d4, .string x2.f5, .slice B6 x2.f6.length d6], .pointer (some ⟨bx, 0, none⟩), .int .i64 x2.f0, .bool true, t11, t12, t13, t14, t15, t16, t17, undef], defers := [] }
def cloneV (x2 : S26) (g : Nat) : Value := .agg #[.int .i64 x2.f0, .int .i64 x2.f1, .int .i64 x2.f2, .int .i64 x2.f3, .slice (some ⟨g, 0, none⟩) x2.f4.length x2.f4.length, .string x2.f5, .slice none 0 0]
structure LvJ (w W : World) (X : Nat → Prop) (x2 : S26) (B4 : Option Addr) (d4 : Nat) (B6 : Option Addr) (d6 : Nat) (bx : Nat) (v : Value) (acc : List S26) (mk : Value → Value → Value → Value → Value → Value → Value → Act) (b : Nat → Bool) (a : Act) (w' : World) : Prop where
 e5 : b 5 = true → b 0 = true ∧ b 1 = true ∧ b 2 = true ∧ b 3 = true ∧ b 4 = true
 e6 : b 6 = true → b 5 = true
 e7 : b 7 = true → b 6 = true
 e8 : b 8 = true → b 5 = true
 own : OwnI w (w.heap.size + 3) X w'
 kept : Keeps (fun k => X k ∨ (k < w.heap.size ∨ k = w.heap.size + 1 + 1)) W w'
 mem : ∃ (g q : Nat) (v16 t17 : Value) (ok : Nat → Prop), a = mk (if b 0 then v else undef) (if b 1 then .agg #[.int .i64 x2.f0, .int .i64 x2.f1, .int .i64 x2.f2, .int .i64 x2.f3, .slice B4 x2.f4.length d4, .string x2.f5, .slice B6 x2.f6.length d6] else undef) (if b 2 then cloneV x2 g else undef) (if b 3 then .int .i64 (acc.length : Int) else undef) (if b 4 then .slice (some ⟨q, 0, none⟩) 1 1 else undef) (if b 5 then v16 else undef) (if b 6 then t17 else undef) ∧
  (b 2 = true → W.heap.size ≤ g ∧ w'.heap[g]? = some (.cells (trisC x2.f4).toArray 46 (0, 0))) ∧ (b 4 = true → W.heap.size ≤ q ∧ w'.heap[q]? = some (.cells zeroN.toArray 26 (0, 0))) ∧
  (∀ k, ok k → w.heap.size + 3 ≤ k ∧ ¬ X k ∧ k ≠ bx ∧ (b 2 = true → b 7 = false → k ≠ g) ∧ (b 4 = true → k ≠ q)) ∧ w'.heap[bx]? = some (.cells #[.int .i64 x2.f0, .int .i64 x2.f1, .int .i64 x2.f2, .int .i64 x2.f3, .slice B4 x2.f4.length d4, .string x2.f5, .slice B6 x2.f6.length d6] 26 (0, 0)) ∧ w'.heap[w.heap.size + 1]? = some (.cells #[if b 8 then v16 else v] 24 (0, 0)) ∧
  Kd.R k26 26 w' w.heap.size ok (if b 5 then v16 else v) (if b 5 then acc ++ [if b 7 then leafOf x2 else z26] else acc) ∧ (b 6 = true → ∃ gb cap, v16 = .slice (some ⟨gb, 0, none⟩) (acc.length + 1) cap ∧ t17 = .pointer (some ⟨gb, acc.length * 7, none⟩))
theorem cst_Leaves.calls (a0_0 : Int) (a0_1 : Int) (a0_2 : Int) (a0_3 : Int) (A0_4 : Option Addr) (c0_4 : Nat) (l0_4 : List S46) (a0_5 : ByteArray) (A0_6 : Option Addr) (c0_6 : Nat) (l0_6 : List S26) (r : List S26) (w : World) (hr0_4 : Kd.C k46 w A0_4 l0_4.length l0_4) (hc0_4 : l0_4.length ≤ c0_4) (hr0_6 : Kd.C k26 w A0_6 l0_6.length l0_6) (hc0_6 : l0_6.length ≤ c0_6) (h : cst_Leaves.f a0_0 a0_1 a0_2 a0_3 l0_4 a0_5 l0_6 = some r) :
  Calls Tryd.prog 17 #[.agg #[.int .i64 a0_0, .int .i64 a0_1, .int .i64 a0_2, .int .i64 a0_3, .slice A0_4 l0_4.length c0_4, .string a0_5, .slice A0_6 l0_6.length c0_6]] w fun e w' => ∃ v0_ : Value, e = .returned (v0_) ∧ Kd.R k26 26 w' w.heap.size (fun _ => True) v0_ r ∧ Below w.heap.size w w' := by
 unfold cst_Leaves.f at h
 obtain ⟨x, hx⟩ : ∃ x : S26, x = ⟨a0_0, a0_1, a0_2, a0_3, l0_4, a0_5, l0_6⟩ := ⟨_, rfl⟩
 rw [← hx] at h
 obtain rfl : a0_0 = x.f0 := by rw [hx]
 obtain rfl : a0_1 = x.f1 := by rw [hx]
 obtain rfl : a0_2 = x.f2 := by rw [hx]
 obtain rfl : a0_3 = x.f3 := by rw [hx]
 obtain rfl : l0_4 = x.f4 := by rw [hx]
 obtain rfl : a0_5 = x.f5 := by rw [hx]
 obtain rfl : l0_6 = x.f6 := by rw [hx]
 clear hx
 split at h
 case isFalse => cases h
 rename_i hs
 have HP := Aside0.mk (Option.some.inj h)
 have HS := Aside0.mk hs
 clear h hs
 have hok : NodeE.Ok w ⟨x, A0_4, c0_4, A0_6, c0_6⟩ := ⟨hc0_4, hr0_4, hc0_6, hr0_6⟩
 obtain ⟨L, hL1, hL2, hL3⟩ := visits_of w (fun k => k < w.heap.size ∨ k = w.heap.size + 1 + 1) (fun k q => .inl q) _ ⟨x, A0_4, c0_4, A0_6, c0_6⟩ (Nat.lt_succ_self _) hok
 have HL1 := Aside0.mk hL1
 have HL2 := Aside0.mk hL2
 have HL3 := Aside0.mk hL3
 clear hr0_4 hc0_4 hr0_6 hc0_6 hok hL1 hL2 hL3
 refine (callsIn_wide (n := 0)).1 ?_
 refine callsIn_of_wp_marks Tryd.func17 rfl trivial ?_ rfl
 simp only [Tryd.ntmps17, List.size_toArray, List.length_cons, List.length_nil, Nat.reduceAdd, Nat.reduceSub, Array.replicate_succ, Array.replicate_zero, List.push_toArray, List.append_toArray, List.nil_append, List.cons_append]
 gi_wp2_with (refine ⟨trivial, rfl, ?_⟩; refine (callsIn_wide.2 (all_calls' _ _ _ _ _ _)).mono ?_; rintro e w' ⟨rfl, rfl⟩)
 have hA := alloc3 w (.cells #[.int .i64 x.f0, .int .i64 x.f1, .int .i64 x.f2, .int .i64 x.f3, .slice A0_4 x.f4.length c0_4, .string x.f5, .slice A0_6 x.f6.length c0_6] 26) (.cells #[.slice none 0 0] 24) (.cells #[.int .i64 x.f0, .int .i64 x.f1, .int .i64 x.f2, .int .i64 x.f3, .slice A0_4 x.f4.length c0_4, .string x.f5, .slice A0_6 x.f6.length c0_6] 26)
 obtain ⟨W0, hW0⟩ : ∃ W0, (((w.alloc (.cells #[.int .i64 x.f0, .int .i64 x.f1, .int .i64 x.f2, .int .i64 x.f3, .slice A0_4 x.f4.length c0_4, .string x.f5, .slice A0_6 x.f6.length c0_6] 26)).alloc (.cells #[.slice none 0 0] 24)).alloc (.cells #[.int .i64 x.f0, .int .i64 x.f1, .int .i64 x.f2, .int .i64 x.f3, .slice A0_4 x.f4.length c0_4, .string x.f5, .slice A0_6 x.f6.length c0_6] 26)) = W0 := ⟨_, rfl⟩
 rw [hW0] at hA ⊢
 clear hW0
 obtain ⟨hB, hb0, hb1, hb2, hz⟩ := hA
 refine wp_range (gf := 49) (lb := #[.pointer (some ⟨w.heap.size + 1 + 1, 0, none⟩)]) ?hg (enters_of Tryd.func49 (by kernel_rfl) rfl) (all1_gives w W0 ⟨x, A0_4, c0_4, A0_6, c0_6⟩ L _ (fun k q => hB.block k q) hB.size hb2 HL3.out) (Below.refl _ _) (fun _ => rfl)
  (LeavesI w) (fun _ _ _ _ => False) (LeavesM w x A0_4 c0_4 A0_6 c0_6) (LeavesI.abides w) (fun _ _ _ _ _ _ h => h.elim) ?hM ?h0 ?assign ?body ?done ?stop
 case hg => rfl
 case hM => exact fun pre y a₁ => LeavesM.abides w x A0_4 c0_4 A0_6 c0_6 pre y a₁
 case h0 => exact ⟨⟨hB, fun k q => q.elim, by omega, by omega⟩, .slice none 0 0, fun _ => False, hb1, fun k q => q.elim, Kd.R_nil _ _ _ _ _⟩
 case assign =>
  intro l pre y post X W hL hI hX
  have HI := Aside0.mk hI
  have HX := Aside0.mk hX
  clear hL hI hX hb0 hb1 hb2
  obtain ⟨x2, B4, d4, B6, d6⟩ := y
  simp only [encNode, NodeE.v]
  gi_wp2
  have hI' := LeavesB.step2 (nb' := fun k => k = W.heap.size) HI.out (IStep.of_below (below_alloc (Below.refl _ _) (.cells #[.int .i64 x2.f0, .int .i64 x2.f1, .int .i64 x2.f2, .int .i64 x2.f3, .slice B4 x2.f4.length d4, .string x2.f5, .slice B6 x2.f6.length d6] 26))) (fun k hk _ q => Nat.ne_of_lt hk q)
  exact ⟨.of_below (below_alloc (Below.refl _ _) _), W.heap.size, hI', blk_new W _, fun q => by have := (HX.out _ q).2; omega, HI.out.1.size, rfl⟩
 case body =>
  rintro l pre y post a₁ X W hL ⟨bx, hI, hbx, hnx, hge, rfl⟩ hX
  have hok := (HL2.out y (by rw [hL]; simp)).step (fun k q => hI.1.below.block k q)
  have hlead : y.x.f4.length ≤ 4294967296 := HS.out.1 y.x (by rw [← HL1.out, hL]; simp)
  have HOW := Aside0.mk (HL2.out y (by rw [hL]; simp))
  obtain ⟨x2, B4, d4, B6, d6⟩ := y
  have HI := Aside0.mk hI
  have HL := Aside0.mk hL
  have HOK := Aside0.mk hok
  have HBX := Aside0.mk hbx
  have HXB := Aside0.mk hX
  simp only [NodeE.a] at hbx
  have c0 : W.cell? ⟨bx, 0, none⟩ = some (.int .i64 x2.f0) := (blk_cell hbx 0).trans rfl
  clear hI hL hok hb0 hb1 hb2 hbx hX
  simp only [NodeE.v]
  by_cases h0 : 0 ≤ x2.f0
  case neg =>
   have h1 : decide (x2.f0 ≥ 0) = false := decide_eq_false h0
   gi_wp2
   refine ⟨Keeps.refl _ _, ?_⟩
   have e : leavesE (pre ++ [⟨x2, B4, d4, B6, d6⟩]) = leavesE pre := by simp [leavesE, h0]
   unfold LeavesI
   rw [e]
   exact HI.out.step2 (IStep.refl _ _) (fun _ _ _ q => q)
  case pos =>
   have h1 : decide (x2.f0 ≥ 0) = true := decide_eq_true h0
   gi_wp2
   obtain ⟨ho, v, ok, hv1, hv2, hv3⟩ := HI.out
   refine region_inv (by kernel_rfl) (fun listed a w' => LvJ w W X x2 B4 d4 B6 d6 bx v (leavesE pre) (LvAct w x A0_4 c0_4 A0_6 c0_6 x2 B4 d4 B6 d6 bx) (fun i => listed.getD i false) a w') ?start ?step ?fin
   case start =>
    have hf : ∀ i, (Array.replicate 9 false).getD i false = false := fun i => by simp [Array.getD]
    refine ⟨fun q => ?_, fun q => ?_, fun q => ?_, fun q => ?_, ho.drew, ⟨Nat.le_refl _, fun _ _ _ => rfl⟩, 0, 0, undef, undef, ok, ?_, fun q => ?_, fun q => ?_, fun k hk => ⟨(hv2 k hk).1, (hv2 k hk).2.1, (hv2 k hk).2.2, fun q => ?_, fun q => ?_⟩, HBX.out, ?_, ?_, fun q => ?_⟩
    all_goals first
     | (exfalso; simp [hf] at q; done)
     | skip
    ·rfl
    ·exact hv1
    ·exact Kd.R_drew hv3
   case step =>
    intro listed a w' i hz hJ hi
    obtain ⟨b0, b1, b2, b3, b4, b5, b6, b7, b8, rfl⟩ := arr9 listed hz
    have hlt : i < 9 := by
     obtain ⟨_, o, h2, _⟩ := ready_false hz hi
     exact (Array.getElem?_eq_some_iff.1 h2).1
    obtain ⟨e5, e6, e7, e8, ho', hk', g, q, v16, t17, ok', ha, hg, hq, hok', hbx', hcell, hR, hp⟩ := hJ
    obtain rfl | rfl | rfl | rfl | rfl | rfl | rfl | rfl | rfl : i = 0 ∨ i = 1 ∨ i = 2 ∨ i = 3 ∨ i = 4 ∨ i = 5 ∨ i = 6 ∨ i = 7 ∨ i = 8 := by omega
    ·have hd : (!b0) = true := by
      clear hz e5 e6 e7 e8 ha hg hq hok' hcell hR hp
      revert hi
      revert b0 b1 b2 b3 b4 b5 b6 b7 b8
      decide +kernel
     simp only [Bool.and_eq_true, Bool.not_eq_true'] at hd
     obtain rfl := hd
     obtain rfl : b5 = false := Bool.eq_false_iff.2 (fun q => by have := e5 q; simp at this)
     obtain rfl : b6 = false := Bool.eq_false_iff.2 (fun q => by have := e6 q; simp at this)
     obtain rfl : b7 = false := Bool.eq_false_iff.2 (fun q => by have := e7 q; simp at this)
     obtain rfl : b8 = false := Bool.eq_false_iff.2 (fun q => by have := e8 q; simp at this)
     have c1 : w'.cell? ⟨w.heap.size + 1, 0, none⟩ = some v := (blk_cell hcell 0).trans rfl
     refine wpOpIn_step rfl (fun K' hK => ?_)
     rw [if_pos (by rfl)]
     subst ha
     simp only [LvAct]
     simp [go_sem, c1]
     refine hK _ _ ⟨fun q => by simp at q, fun q => by simp at q, fun q => by simp at q, fun q => by simp at q, ho', hk', g, q, v16, t17, ok', rfl, hg, hq, hok', hbx', hcell, hR, hp⟩
    ·have hd : (!b1) = true := by
      clear hz e5 e6 e7 e8 ha hg hq hok' hcell hR hp
      revert hi
      revert b0 b1 b2 b3 b4 b5 b6 b7 b8
      decide +kernel
     simp only [Bool.and_eq_true, Bool.not_eq_true'] at hd
     obtain rfl := hd
     obtain rfl : b5 = false := Bool.eq_false_iff.2 (fun q => by have := e5 q; simp at this)
     obtain rfl : b6 = false := Bool.eq_false_iff.2 (fun q => by have := e6 q; simp at this)
     obtain rfl : b7 = false := Bool.eq_false_iff.2 (fun q => by have := e7 q; simp at this)
     obtain rfl : b8 = false := Bool.eq_false_iff.2 (fun q => by have := e8 q; simp at this)
     have c0 : w'.cell? ⟨bx, 0, none⟩ = some (.int .i64 x2.f0) := (blk_cell hbx' 0).trans rfl
     have c1 : w'.cell? ⟨bx, 1, none⟩ = some (.int .i64 x2.f1) := (blk_cell hbx' 1).trans rfl
     have c2 : w'.cell? ⟨bx, 2, none⟩ = some (.int .i64 x2.f2) := (blk_cell hbx' 2).trans rfl
     have c3 : w'.cell? ⟨bx, 3, none⟩ = some (.int .i64 x2.f3) := (blk_cell hbx' 3).trans rfl
     have c4 : w'.cell? ⟨bx, 4, none⟩ = some (.slice B4 x2.f4.length d4) := (blk_cell hbx' 4).trans rfl
     have c5 : w'.cell? ⟨bx, 5, none⟩ = some (.string x2.f5) := (blk_cell hbx' 5).trans rfl
     have c6 : w'.cell? ⟨bx, 6, none⟩ = some (.slice B6 x2.f6.length d6) := (blk_cell hbx' 6).trans rfl
     refine wpOpIn_step rfl (fun K' hK => ?_)
     rw [if_pos (by rfl)]
     subst ha
     simp only [LvAct]
     simp [go_sem, c0, c1, c2, c3, c4, c5, c6]
     refine hK _ _ ⟨fun q => by simp at q, fun q => by simp at q, fun q => by simp at q, fun q => by simp at q, ho', hk', g, q, v16, t17, ok', rfl, hg, hq, hok', hbx', hcell, hR, hp⟩
    ·have hd : (!b2 && b1) = true := by
      clear hz e5 e6 e7 e8 ha hg hq hok' hcell hR hp
      revert hi
      revert b0 b1 b2 b3 b4 b5 b6 b7 b8
      decide +kernel
     simp only [Bool.and_eq_true, Bool.not_eq_true'] at hd
     obtain ⟨rfl, rfl⟩ := hd
     obtain rfl : b5 = false := Bool.eq_false_iff.2 (fun q => by have := e5 q; simp at this)
     obtain rfl : b6 = false := Bool.eq_false_iff.2 (fun q => by have := e6 q; simp at this)
     obtain rfl : b7 = false := Bool.eq_false_iff.2 (fun q => by have := e7 q; simp at this)
     obtain rfl : b8 = false := Bool.eq_false_iff.2 (fun q => by have := e8 q; simp at this)
     refine wpOpIn_step rfl (fun K' hK => ?_)
     rw [if_pos (by rfl)]
     subst ha
     simp only [LvAct]
     simp [go_sem]
     refine ⟨trivial, rfl, ?_⟩
     refine (CallsIn.inRound l (callsIn_wide.2 (cst_clone.runs ⟨x2, B4, d4, B6, d6⟩ w' (HOW.out.step (fun k q => ho'.below.block k q)) hlead))).mono ?_
     rintro r4 w4 ⟨g', rfl, hg1, hg2, hB4⟩
     have hlt4 : ∀ {k : Nat} {o : Obj}, w'.heap[k]? = some o → w4.heap[k]? = some o := fun h => (hB4.block _ (Array.getElem?_eq_some_iff.1 h).1).trans h
     refine hK _ _ ⟨fun q => by simp at q, fun q => by simp at q, fun q => by simp at q, fun q => by simp at q, ho'.step (IStep.of_below hB4), hk'.trans (Keeps.of_below hB4), g', q, v16, t17, fun k => ok' k ∧ k < w'.heap.size, rfl, fun _ => ⟨Nat.le_trans hk'.size hg1, hg2⟩, fun qq => ⟨(hq qq).1, hlt4 (hq qq).2⟩,
      fun k hk => ⟨(hok' k hk.1).1, (hok' k hk.1).2.1, (hok' k hk.1).2.2.1, fun _ _ => by have := hk.2; omega, (hok' k hk.1).2.2.2.2⟩, hlt4 hbx', hlt4 hcell, Kd.R_below (Kd.R_mono (Kd.R_bound hR) (fun k hk => ⟨hk.1, hk.2.2.1⟩)) hB4, hp⟩
    ·have hd : (!b3 && b0) = true := by
      clear hz e5 e6 e7 e8 ha hg hq hok' hcell hR hp
      revert hi
      revert b0 b1 b2 b3 b4 b5 b6 b7 b8
      decide +kernel
     simp only [Bool.and_eq_true, Bool.not_eq_true'] at hd
     obtain ⟨rfl, rfl⟩ := hd
     obtain rfl : b5 = false := Bool.eq_false_iff.2 (fun q => by have := e5 q; simp at this)
     obtain rfl : b6 = false := Bool.eq_false_iff.2 (fun q => by have := e6 q; simp at this)
     obtain rfl : b7 = false := Bool.eq_false_iff.2 (fun q => by have := e7 q; simp at this)
     obtain rfl : b8 = false := Bool.eq_false_iff.2 (fun q => by have := e8 q; simp at this)
     obtain ⟨A, c, rfl⟩ := Kd.R_slice hR
     refine wpOpIn_step rfl (fun K' hK => ?_)
     rw [if_pos (by rfl)]
     subst ha
     simp only [LvAct]
     simp [go_sem]
     refine hK _ _ ⟨fun q => by simp at q, fun q => by simp at q, fun q => by simp at q, fun q => by simp at q, ho', hk', g, q, v16, t17, ok', rfl, hg, hq, hok', hbx', hcell, hR, hp⟩
    ·have hd : (!b4) = true := by
      clear hz e5 e6 e7 e8 ha hg hq hok' hcell hR hp
      revert hi
      revert b0 b1 b2 b3 b4 b5 b6 b7 b8
      decide +kernel
     simp only [Bool.and_eq_true, Bool.not_eq_true'] at hd
     obtain rfl := hd
     obtain rfl : b5 = false := Bool.eq_false_iff.2 (fun q => by have := e5 q; simp at this)
     obtain rfl : b6 = false := Bool.eq_false_iff.2 (fun q => by have := e6 q; simp at this)
     obtain rfl : b7 = false := Bool.eq_false_iff.2 (fun q => by have := e7 q; simp at this)
     obtain rfl : b8 = false := Bool.eq_false_iff.2 (fun q => by have := e8 q; simp at this)
     refine wpOpIn_step rfl (fun K' hK => ?_)
     rw [if_pos (by rfl)]
     subst ha
     simp only [LvAct]
     simp [go_sem]
     have hB4 : Below w'.heap.size w' (w'.alloc (.cells zeroN.toArray 26)) := below_alloc (Below.refl _ _) _
     have hlt4 : ∀ {k : Nat} {o : Obj}, w'.heap[k]? = some o → (w'.alloc (.cells zeroN.toArray 26)).heap[k]? = some o := fun h => (hB4.block _ (Array.getElem?_eq_some_iff.1 h).1).trans h
     refine hK _ _ ⟨fun q => by simp at q, fun q => by simp at q, fun q => by simp at q, fun q => by simp at q, ho'.step (IStep.of_below hB4), hk'.trans (Keeps.of_below hB4), g, w'.heap.size, v16, t17, fun k => ok' k ∧ k < w'.heap.size, rfl, fun qq => ⟨(hg qq).1, hlt4 (hg qq).2⟩, fun _ => ⟨hk'.size, blk_new w' _⟩,
      fun k hk => ⟨(hok' k hk.1).1, (hok' k hk.1).2.1, (hok' k hk.1).2.2.1, (hok' k hk.1).2.2.2.1, fun _ => by have := hk.2; omega⟩, hlt4 hbx', hlt4 hcell, Kd.R_below (Kd.R_mono (Kd.R_bound hR) (fun k hk => ⟨hk.1, hk.2.2.1⟩)) hB4, hp⟩
    ·have hd : (!b5 && b0 && b1 && b2 && b3 && b4) = true := by
      clear hz e5 e6 e7 e8 ha hg hq hok' hcell hR hp
      revert hi
      revert b0 b1 b2 b3 b4 b5 b6 b7 b8
      decide +kernel
     simp only [Bool.and_eq_true, Bool.not_eq_true'] at hd
     obtain ⟨⟨⟨⟨⟨rfl, rfl⟩, rfl⟩, rfl⟩, rfl⟩, rfl⟩ := hd
     obtain rfl : b6 = false := Bool.eq_false_iff.2 (fun q => by have := e6 q; simp at this)
     obtain rfl : b7 = false := Bool.eq_false_iff.2 (fun q => by have := e7 q; simp at this)
     obtain rfl : b8 = false := Bool.eq_false_iff.2 (fun q => by have := e8 q; simp at this)
     refine wpOpIn_step rfl (fun K' hK => ?_)
     rw [if_pos (by rfl)]
     subst ha
     simp only [LvAct]
     obtain ⟨g1, g2⟩ := hg rfl
     obtain ⟨q1, q2⟩ := hq rfl
     have hacc : (leavesE pre).length + 1 ≤ 4294967296 := by
      have h1 := congrArg List.length HL1.out
      rw [HL.out] at h1
      simp at h1
      have h2 : (leavesE pre).length ≤ pre.length := by unfold leavesE; rw [List.length_map]; exact List.length_filter_le _ _
      have := HS.out.2.2
      omega
     have hown : ∀ b, v.ownBlock = some b → ok' b := hR.1
     have hrd : ReadsRow (fun (p : S26) (cs : List Value) => p = z26 ∧ cs = zeroN) k26.sz w' (some ⟨q, 0, none⟩) 1 [z26] := by
      refine ⟨rfl, by omega, fun _ => ⟨⟨q, 0, none⟩, rfl, fun j p hp => ?_⟩⟩
      have hj : j = 0 := by have := (List.getElem?_eq_some_iff.1 hp).1; simp at this; omega
      subst hj
      refine ⟨zeroN, rfl, ⟨by simpa using hp.symm, rfl⟩, fun i u hu => ?_⟩
      have h1 := blk_cell q2 i
      have h2 : (Addr.add ⟨q, 0, none⟩ (0 * k26.sz + i)) = ⟨q, i, none⟩ := by
       rw [Nat.zero_mul, Nat.zero_add]
       unfold Addr.add
       split
       ·rename_i h; subst h; rfl
       ·simp
      rw [h2, h1]
      simpa using hu
     refine wpIn_of_wp l (fun c h => by cases h) ?_
     refine step_wp (by rfl) (Kd.R_append_rows_step (ops := #[]) k26 (w0 := w) w.heap.size rfl (.tmp 11) (.tmp 15) 24 26 (.agg #[.int .i64 0, .int .i64 0, .int .i64 0, .int .i64 0, .slice none 0 0, .string ⟨#[]⟩, .slice none 0 0]) 96 rfl Tryd.underlying24 info26 rfl (by decide) (by omega)
      v (leavesE pre) [z26] (some ⟨q, 0, none⟩) 1 1 (fun k => ok' k ∨ w'.heap.size ≤ k) (fun _ => False) rfl rfl (Kd.R_mono hR (fun k hk => .inl hk)) hrd ?_ (fun k hk => hk.elim) (fun k hk => .inr hk) ho'.below (by have := ho'.size; omega) (by omega) ?_)
     ·rintro p cs ⟨rfl, rfl⟩
      exact k26_mkM w' w.heap.size _ z26 (Kd.R_nil _ _ _ _ _) (Kd.R_nil _ _ _ _ _)
     ·intro v1 w1 hR1 hB1 hgr hat
      have ne : ∀ k, ¬ ok' k → k < w'.heap.size → w1.heap[k]? = w'.heap[k]? := fun k hk hlt => hgr.block k hlt (fun q => hk (hown k q.symm))
      have lt : ∀ {k : Nat} {o : Obj}, w'.heap[k]? = some o → k < w'.heap.size := fun h => (Array.getElem?_eq_some_iff.1 h).1
      have hgn : ¬ ok' g := fun q => (hok' g q).2.2.2.1 rfl rfl rfl
      have hqn : ¬ ok' q := fun qq => (hok' q qq).2.2.2.2 rfl rfl
      have hbn : ¬ ok' bx := fun q => (hok' bx q).2.2.1 rfl
      have hcn : ¬ ok' (w.heap.size + 1) := fun q => by have := (hok' _ q).1; omega
      have hXn : ∀ k, X k → ¬ ok' k := fun k hk q => (hok' k q).2.1 hk
      refine hK _ _ ⟨fun _ => ⟨rfl, rfl, rfl, rfl, rfl⟩, fun q => by simp at q, fun q => by simp at q, fun q => by simp at q, ⟨hB1, ho'.far, Nat.le_trans ho'.size hgr.size, ho'.base⟩, hk'.trans ⟨hgr.size, fun k hk hlt => ne k (fun q => ?_) hlt⟩, g, q, v1, t17, fun k => ok' k ∨ w'.heap.size ≤ k, rfl, fun _ => ⟨g1, (ne g hgn (lt g2)).trans g2⟩, fun _ => ⟨q1, (ne q hqn (lt q2)).trans q2⟩, fun k hk => ?_, (ne bx hbn (lt hbx')).trans hbx', (ne _ hcn (lt hcell)).trans hcell, hR1, fun q => by simp at q⟩
      ·have h1 := hok' k q
       rcases hk with h | h | h
       ·exact h1.2.1 h
       ·have := h1.1; omega
       ·have := h1.1; omega
      ·rcases hk with h | h
       ·exact hok' k h
       ·have := hk'.size
        refine ⟨Nat.le_trans ho'.size h, fun q => by have := (HXB.out k q).2; omega, fun q => by have := lt hbx'; omega, fun _ _ q => by have := lt g2; omega, fun _ q => by have := lt q2; omega⟩
    ·have hd : (!b6 && b5) = true := by
      clear hz e5 e6 e7 e8 ha hg hq hok' hcell hR hp
      revert hi
      revert b0 b1 b2 b3 b4 b5 b6 b7 b8
      decide +kernel
     simp only [Bool.and_eq_true, Bool.not_eq_true'] at hd
     obtain ⟨rfl, rfl⟩ := hd
     obtain ⟨rfl, rfl, rfl, rfl, rfl⟩ := e5 rfl
     obtain rfl : b7 = false := Bool.eq_false_iff.2 (fun q => by have := e7 q; simp at this)
     have hR' := hR
     obtain ⟨_, inner, ⟨_, hrow⟩, _⟩ := hR'
     have hl1 : (leavesE pre ++ [z26]).length = (leavesE pre).length + 1 := by simp
     rcases hrow with ⟨_, h0n⟩ | ⟨gb, cap, cur, hv16, hb16, hh16, hn16, hm16, hs16, _⟩
     ·simp at h0n
     have hv17 : v16 = .slice (some ⟨gb, 0, none⟩) ((leavesE pre).length + 1) cap := hv16.trans (by rw [← hl1]; rfl)
     subst hv17
     refine wpOpIn_step rfl (fun K' hK => ?_)
     rw [if_pos (by rfl)]
     subst ha
     simp only [LvAct]
     have hd1 : decide (((leavesE pre).length : Int) < (((leavesE pre).length + 1 : Nat) : Int)) = true := decide_eq_true (by omega)
     have ha0 := add0 gb ((leavesE pre).length * 7)
     simp [go_sem, ha0]
     rw [if_pos (show ((leavesE pre).length : Int) < ((leavesE pre).length : Int) + 1 by omega)]
     refine hK _ _ ⟨fun _ => ⟨rfl, rfl, rfl, rfl, rfl⟩, fun _ => rfl, fun q => by simp at q, fun q => e8 q, ho', hk', g, q, .slice (some ⟨gb, 0, none⟩) ((leavesE pre).length + 1) cap, .pointer (some ⟨gb, (leavesE pre).length * 7, none⟩), ok', rfl, hg, hq, hok', hbx', hcell, hR, fun _ => ⟨gb, cap, rfl, rfl⟩⟩
    ·have hd : (!b7 && b2 && b6) = true := by
      clear hz e5 e6 e7 e8 ha hg hq hok' hcell hR hp
      revert hi
      revert b0 b1 b2 b3 b4 b5 b6 b7 b8
      decide +kernel
     simp only [Bool.and_eq_true, Bool.not_eq_true'] at hd
     obtain ⟨⟨rfl, rfl⟩, rfl⟩ := hd
     obtain rfl := e6 rfl
     obtain ⟨rfl, rfl, _, rfl, rfl⟩ := e5 rfl
     obtain ⟨gb, cap, rfl, rfl⟩ := hp rfl
     obtain ⟨g1, g2⟩ := hg rfl
     have hl1 : (leavesE pre ++ [z26]).length = (leavesE pre).length + 1 := by simp
     have hRb : Kd.R k26 26 w' w.heap.size ok' (.slice (some ⟨gb, 0, none⟩) ((leavesE pre).length + 1) cap) (leavesE pre ++ [z26]) := hR
     have hgbok : ok' gb := hRb.1 gb rfl
     obtain ⟨adz, cz, eadz, hclen, hKz, hcz⟩ := Kd.C_get (Kd.R_reads' hRb).2.2 z26 ((leavesE pre).length : Int) (by omega) (by rw [hl1]; omega)
     cases eadz
     have hgz : (leavesE pre ++ [z26]).getD (((leavesE pre).length : Int)).toNat z26 = z26 := by simp [List.getD_eq_getElem?_getD]
     rw [hgz] at hKz
     obtain ⟨A4', c4', A6', c6', rfl, _, _, _, _⟩ := k26_open hKz
     obtain ⟨_, inner, ⟨_, hrow⟩, _⟩ := hRb
     rcases hrow with ⟨h0n, _⟩ | ⟨gb', cap', cur, hv16, hb16, hh16, _⟩
     ·cases h0n
     obtain rfl : gb = gb' := by
      have h5 := hv16
      simp at h5
      exact h5.1
     have hcz2 : ∀ j u, ([.int .i64 0, .int .i64 0, .int .i64 0, .int .i64 0, .slice A4' 0 c4', .string ⟨#[]⟩, .slice A6' 0 c6'] : List Value)[j]? = some u → w'.cell? ⟨gb, (leavesE pre).length * 7 + j, none⟩ = some u := fun j u h => by
      have h2 := hcz j u h
      rw [add0] at h2
      exact h2
     have z0 := hcz2 0 _ rfl
     have f0 := blk_frozen hh16 ((leavesE pre).length * 7 + 0)
     have z1 := hcz2 1 _ rfl
     have f1 := blk_frozen hh16 ((leavesE pre).length * 7 + 1)
     have z2 := hcz2 2 _ rfl
     have f2 := blk_frozen hh16 ((leavesE pre).length * 7 + 2)
     have z3 := hcz2 3 _ rfl
     have f3 := blk_frozen hh16 ((leavesE pre).length * 7 + 3)
     have z4 := hcz2 4 _ rfl
     have f4 := blk_frozen hh16 ((leavesE pre).length * 7 + 4)
     have z5 := hcz2 5 _ rfl
     have f5 := blk_frozen hh16 ((leavesE pre).length * 7 + 5)
     have z6 := hcz2 6 _ rfl
     have f6 := blk_frozen hh16 ((leavesE pre).length * 7 + 6)
     simp only [Nat.add_zero] at z0 f0
     refine wpOpIn_step rfl (fun K' hK => ?_)
     rw [if_pos (by rfl)]
     subst ha
     simp only [LvAct]
     simp only [cloneV]
     simp [go_sem, z0, f0, z1, f1, z2, f2, z3, f3, z4, f4, z5, f5, z6, f6]
     have hgne : g ≠ gb := fun q => (hok' gb hgbok).2.2.2.1 rfl rfl q.symm
     have hgq : g ≠ q := fun e => by
      have h5 := g2
      rw [e] at h5
      have := h5.symm.trans (hq rfl).2
      simp at this
     have hgbx : g ≠ bx := fun e => by
      have h5 := g2
      rw [e] at h5
      have := h5.symm.trans hbx'
      simp at this
     have hWs := HI.out.1.size
     have hM : k26.M w' w.heap.size (fun k => k = g) (leafOf x2) ([.int .i64 x2.f0, .int .i64 x2.f1, .int .i64 x2.f2, .int .i64 x2.f3, .slice (some ⟨g, 0, none⟩) x2.f4.length x2.f4.length, .string x2.f5, .slice none 0 0] : List Value) := k26_mkM w' w.heap.size _ (leafOf x2) (tris_R (ok := fun k => k = g) g2 (by omega) rfl (Nat.le_trans hlead (by omega))) (Kd.R_nil _ _ _ _ _)
     have hseg := Kd.R_seg (d := k26) (x' := leafOf x2) (c := [.int .i64 0, .int .i64 0, .int .i64 0, .int .i64 0, .slice A4' 0 c4', .string ⟨#[]⟩, .slice A6' 0 c6']) (seg := [.int .i64 x2.f0, .int .i64 x2.f1, .int .i64 x2.f2, .int .i64 x2.f3, .slice (some ⟨g, 0, none⟩) x2.f4.length x2.f4.length, .string x2.f5, .slice none 0 0]) (j := 0) (okp := fun k => k = g) (ok := fun k => ok' k ∨ k = g) (Kd.R_mono (show Kd.R k26 26 w' w.heap.size ok' (.slice (some ⟨gb, 0, none⟩) ((leavesE pre).length + 1) cap) (leavesE pre ++ [z26]) from hR) (fun k hk => Or.inl hk)) ((leavesE pre).length : Int) (by omega) (by omega) rfl (fun j u h => hcz2 j u h) (Nat.le_refl 7) (by simpa using hM) (fun k hk => ⟨.inr hk, by rw [hk]; exact hgne⟩)
     obtain ⟨hrow2, hgr⟩ := hseg
     have hset : (leavesE pre ++ [z26]).set (((leavesE pre).length : Int)).toNat (leafOf x2) = leavesE pre ++ [leafOf x2] := by simp
     have ne : ∀ k, k ≠ gb → (w'.setCells gb ((((leavesE pre).length : Int)).toNat * k26.sz + 0) ([.int .i64 x2.f0, .int .i64 x2.f1, .int .i64 x2.f2, .int .i64 x2.f3, .slice (some ⟨g, 0, none⟩) x2.f4.length x2.f4.length, .string x2.f5, .slice none 0 0])).heap[k]? = w'.heap[k]? := fun k hk => setCells_far _ _ k hk
     have hgb1 := hok' gb hgbok
     refine hK _ _ (show LvJ w W X x2 B4 d4 B6 d6 bx v (leavesE pre) (LvAct w x A0_4 c0_4 A0_6 c0_6 x2 B4 d4 B6 d6 bx) _ _ (w'.setCells gb ((((leavesE pre).length : Int)).toNat * k26.sz + 0) ([.int .i64 x2.f0, .int .i64 x2.f1, .int .i64 x2.f2, .int .i64 x2.f3, .slice (some ⟨g, 0, none⟩) x2.f4.length x2.f4.length, .string x2.f5, .slice none 0 0])) from ⟨fun _ => ⟨rfl, rfl, rfl, rfl, rfl⟩, fun _ => rfl, fun _ => rfl, fun q => e8 q, ⟨ho'.below.trans ⟨hgr.os, hgr.tape, hgr.output, hgr.size, fun k hk => ne k (by omega)⟩, ho'.far, Nat.le_trans ho'.size hgr.size, ho'.base⟩, hk'.trans ⟨hgr.size, fun k hk hlt => ne k (fun e => ?_)⟩, g, q, .slice (some ⟨gb, 0, none⟩) ((leavesE pre).length + 1) cap, _, fun k => ok' k ∨ k = g, rfl, fun _ => ⟨g1, (ne g hgne).trans g2⟩, fun _ => ⟨(hq rfl).1, (ne q (fun e => hgb1.2.2.2.2 rfl e.symm)).trans (hq rfl).2⟩, fun k hk => ?_, (ne bx (fun e => hgb1.2.2.1 e.symm)).trans hbx', (ne _ (by omega)).trans hcell, ?_, fun _ => ⟨gb, cap, rfl, rfl⟩⟩)
     ·rcases hk with h | h | h
      ·exact hgb1.2.1 (e ▸ h)
      ·omega
      ·omega
     ·rcases hk with h | h
      ·exact ⟨(hok' k h).1, (hok' k h).2.1, (hok' k h).2.2.1, (fun _ q => Bool.noConfusion (show true = false from q)), (hok' k h).2.2.2.2⟩
      ·subst h
       exact ⟨by omega, fun q => by have := (HXB.out _ q).2; omega, hgbx, (fun _ q => Bool.noConfusion (show true = false from q)), fun _ => hgq⟩
     ·rw [hset] at hrow2
      exact hrow2
    ·have hd : (!b8 && b5) = true := by
      clear hz e5 e6 e7 e8 ha hg hq hok' hcell hR hp
      revert hi
      revert b0 b1 b2 b3 b4 b5 b6 b7 b8
      decide +kernel
     simp only [Bool.and_eq_true, Bool.not_eq_true'] at hd
     obtain ⟨rfl, rfl⟩ := hd
     obtain ⟨rfl, rfl, rfl, rfl, rfl⟩ := e5 rfl
     have c1 : w'.cell? ⟨w.heap.size + 1, 0, none⟩ = some v := (blk_cell hcell 0).trans rfl
     have f1 := blk_frozen hcell 0
     have hv16 : ∃ A c n, v16 = .slice A n c := by
      obtain ⟨A, c, h⟩ := Kd.R_slice hR
      exact ⟨A, c, _, h⟩
     obtain ⟨A, c, n, rfl⟩ := hv16
     refine wpOpIn_step rfl (fun K' hK => ?_)
     rw [if_pos (by rfl)]
     subst ha
     simp only [LvAct]
     simp [go_sem, c1, f1]
     have ne : ∀ k, k ≠ w.heap.size + 1 → (w'.setCell ⟨w.heap.size + 1, 0, none⟩ (.slice A n c)).heap[k]? = w'.heap[k]? := fun k hk => Below.heap_setCell _ _ _ k hk
     refine hK _ _ ⟨fun _ => ⟨rfl, rfl, rfl, rfl, rfl⟩, fun _ => rfl, fun q => e7 q, fun _ => rfl, ho'.set _ _ (by simp), hk'.trans (Keeps.set _ _ _ (fun q => ?_)), g, q, .slice A n c, t17, ok', rfl, fun qq => ⟨(hg qq).1, (ne g ?_).trans (hg qq).2⟩, fun qq => ⟨(hq qq).1, (ne q ?_).trans (hq qq).2⟩, hok', (ne bx ?_).trans hbx', ?_, Kd.R_far hR (fun k hk => ?_) _, hp⟩
     ·rcases q with q | q
      ·have := ho'.far _ q; simp at this <;> omega
      ·simp at q; omega
     ·have := (hg qq).1; have := HI.out.1.size; omega
     ·have := (hq qq).1; have := HI.out.1.size; omega
     ·omega
     ·have h3 := blk_put hcell 0 (.slice A n c) rfl
      simpa using h3
     ·have := (hok' k hk).1; simp <;> omega
   case fin =>
    intro listed a w' hz hJ hr
    obtain ⟨b0, b1, b2, b3, b4, b5, b6, b7, b8, rfl⟩ := arr9 listed hz
    have hall : (b0 && b1 && b2 && b3 && b4 && b5 && b6 && b7 && b8) = true := by
     clear hJ hz
     revert hr
     revert b0 b1 b2 b3 b4 b5 b6 b7 b8
     decide +kernel
    simp only [Bool.and_eq_true] at hall
    obtain ⟨⟨⟨⟨⟨⟨⟨⟨rfl, rfl⟩, rfl⟩, rfl⟩, rfl⟩, rfl⟩, rfl⟩, rfl⟩, rfl⟩ := hall
    obtain ⟨_, _, _, _, ho', hk', g, q, v16, t17, ok', ha, hg, hq, hok', hbx', hcell, hR, hp⟩ := hJ
    subst ha
    clear hr hz
    refine ⟨hk', ?_⟩
    have e : leavesE (pre ++ [⟨x2, B4, d4, B6, d6⟩]) = leavesE pre ++ [leafOf x2] := by simp [leavesE, h0]
    unfold LeavesI
    rw [e]
    exact ⟨ho', v16, ok', hcell, fun k hk => ⟨(hok' k hk).1, (hok' k hk).2.1, id⟩, hR⟩
 case done =>
  rintro X W hI hXD hXb hD
  rw [hz] at hXD hD
  obtain ⟨ho, v, ok, h1, h2, h3⟩ := hI
  have c1 : W.cell? ⟨w.heap.size + 1, 0, none⟩ = some v := (blk_cell h1 0).trans rfl
  have HD := Aside0.mk hD
  have HO := Aside0.mk ho
  have H3 := Aside0.mk h3
  obtain ⟨A, c, rfl⟩ := Kd.R_slice h3
  have H2 := Aside0.mk h2
  have HXD := Aside0.mk hXD
  clear hD ho h1 h2 h3 hXb hXD hb0 hb1 hb2
  gi_wp2
  refine ret_collected (fun w => results_tmp rfl _ _ _) HD.out ⟨_, rfl, ?_, below_collected HO.out.below (by omega)⟩
  have hr : leavesE L = r := by
   rw [← HP.out]
   unfold leavesE leavesN
   rw [← HL1.out, List.filter_map, List.map_map]
   rfl
  have h4 := Kd.R_step (w1 := W.putObj (w.heap.size + 3) (.deferred none)) H3.out (fun k hk _ => World.putObj_heap_other (fun q => (H2.out k hk).2.1 (by rw [q]; exact HXD.out)))
  rw [hr] at h4
  have h5 := Kd.R_mono h4 (ok' := fun _ => True) (fun _ _ => trivial)
  have e2 : (leavesE L).length = r.length := by rw [hr]
  show Kd.R _ _ _ _ _ (.slice A (leavesE L).length c) r
  rw [e2]
  exact h5
 case stop => exact fun c pre X W _ h => h.elim
end
section
open Go.Proofs.YtphmgaijkdflnaaDoorW.PrintWords Go.Proofs.YtphmgaijkdflnaaDoorW.PrintLast Go.Proofs.YtphmgaijkdflnaaDoorW.PrintMore
theorem tdrop_cons {α : Type} {l : List α} {i : Nat} {p : α} {r : List α} (h : l.drop i = p :: r) : ∃ hi : i < l.length, l[i] = p ∧ l.drop (i + 1) = r := by
 have hi : i < l.length := by
  rcases Nat.lt_or_ge i l.length with q | q
  ·exact q
  ·rw [List.drop_of_length_le q] at h; cases h
 rw [List.drop_eq_getElem_cons hi] at h
 injection h with h1 h2
 exact ⟨hi, h1, h2⟩
theorem tdrop_nil {α : Type} {l : List α} {i : Nat} (h : l.drop i = []) (hi : i ≤ l.length) : i = l.length := by
 have := congrArg List.length h
 simp at this
 omega
theorem rdN (l : List S26) (i : Nat) (h : i < l.length) : rd_T26 l (i : Int) = l[i] := by simp [rd_T26, List.getD_eq_getElem?_getD, h]
theorem rdT (l : List S46) (i : Nat) (h : i < l.length) : rd_T46 l (i : Int) = l[i] := by simp [rd_T46, List.getD_eq_getElem?_getD, h]
theorem wrap_succ (i : Nat) (h : i ≤ 4611686018427387904) : wrap64 ((i : Int) + 1) = ((i + 1 : Nat) : Int) := by unfold wrap64; omega
theorem twrap_id (z : Int) (h0 : -4611686018427387904 ≤ z) (h1 : z ≤ 4611686018427387904) : wrap64 z = z := by unfold wrap64; omega
theorem kid_lt {x : S26} {p : S26} (h : p ∈ x.f6) : SizeOf.sizeOf p < SizeOf.sizeOf x := by
 have h5 := List.sizeOf_lt_of_mem h
 cases x
 simp at h5 ⊢
 omega
structure OkN (x : S26) : Prop where
 s0 : -9223372036854775808 ≤ x.f0 ∧ x.f0 ≤ 9223372036854775807
 lead : x.f4.length ≤ 140737488355328
 leads : ∀ p ∈ x.f4, p.f2.size ≤ 140737488355328
 text : x.f5.size ≤ 140737488355328
 kids : x.f6.length ≤ 140737488355328
 each : ∀ y ∈ x.f6, ok26 y
theorem okN {x : S26} (h : ok26 x) : OkN x := by
 obtain ⟨h0, h1, h2, h3, ⟨h4, h4'⟩, h5, h6, h7⟩ := (ok26_iff x).1 h
 have e : reachBytes = 140737488351232 := rfl
 rw [e] at h4 h6
 refine ⟨?_, by omega, fun p hp => ?_, by have := h5; simp only [e] at this; omega, by omega, h7⟩
 ·exact bounds_i64 h0
 ·have := ((ok46_iff p).1 (h4' p hp)).2.2
  rw [e] at this; omega
mutual
def wN : S26 → Nat
 | ⟨_, _, _, _, l4, t, ks⟩ => 1 + l4.length + t.size / 16 + (l4.map (fun p => p.f2.size / 16)).sum + wL ks
def wL : List S26 → Nat
 | [] => 0
 | k :: r => wN k + wL r
end
theorem wN_eq (x : S26) : wN x = 1 + x.f4.length + x.f5.size / 16 + (x.f4.map (fun p => p.f2.size / 16)).sum + wL x.f6 := by cases x; simp only [wN]
def Res (most c S v : Int) : Prop := 1 ≤ v ∧ v ≤ most + 281474976710656 ∧ (c + S ≤ most → v = c + S) ∧ (most < c + S → most < v)
theorem Res.next {most c u w S v : Int} (hc : c ≤ most) (h0 : 0 ≤ w) (hS : 0 ≤ S) (h1 : w ≤ most - c → u = w) (h2 : most - c < w → most - c < u) (h : Res most (c + u) S v) : Res most c (w + S) v := by
 obtain ⟨g1, g2, g3, g4⟩ := h
 refine ⟨g1, g2, fun q => ?_, fun q => ?_⟩
 ·have := h1 (by omega)
  have := g3 (by omega)
  omega
 ·rcases Int.lt_or_le (most - c) w with z | z
  ·have := h2 z
   exact g4 (by omega)
  ·have := h1 z
   exact g4 (by omega)
theorem Res.over {most c S : Int} (h1 : 1 ≤ c) (h2 : c ≤ most + 281474976710656) (h : most < c) (hS : 0 ≤ S) : Res most c S c := ⟨h1, h2, fun q => by omega, fun _ => h⟩
theorem Res.last {most c : Int} (h1 : 1 ≤ c) (h2 : c ≤ most + 281474976710656) : Res most c 0 c := ⟨h1, h2, fun q => by omega, fun q => by omega⟩
section
variable (x : S26) (hx : OkN x) (most : Int) (hm0 : 0 ≤ most) (hm1 : most ≤ 300)
include hx hm0 hm1
theorem weigh_l1 (ih : ∀ p ∈ x.f6, ∀ m : Int, 0 ≤ m → m ≤ 300 → ∃ v, Ends (fun k => arboristref42_weigh.f k p.f0 p.f1 p.f2 p.f3 p.f4 p.f5 p.f6 m) v ∧ Res m 0 (wN p) v) : ∀ (r : List S26) (i : Nat) (c : Int), x.f6.drop i = r → i ≤ x.f6.length → 1 ≤ c → c ≤ most + 281474976710656 →
  ∃ v, Ends (fun k => arboristref42_weigh.l1 k most c (i : Int) x.f0 x.f1 x.f2 x.f3 x.f4 x.f5 x.f6) v ∧ Res most c (wL r) v := by
 have hk := hx.kids
 intro r
 induction r with
 | nil =>
  intro i c hr hi h1 h2
  have e := tdrop_nil hr hi
  exact ⟨c, Ends.step (fun k => arboristref42_weigh.l1.eq_2 ..) (Ends.neg (by omega) (Ends.const _)), Res.last h1 h2⟩
 | cons p r ihr =>
  intro i c hr hi h1 h2
  obtain ⟨hlt, hp, hr2⟩ := tdrop_cons hr
  by_cases hc : c ≤ most
  ·obtain ⟨u, hu, hu1, hu2, hu3, hu4⟩ := ih p (hp ▸ List.getElem_mem hlt) (most - c) (by omega) (by omega)
   obtain ⟨v, hv, hr3⟩ := ihr (i + 1) (c + u) hr2 hlt (by omega) (by omega)
   refine ⟨v, Ends.step (fun k => arboristref42_weigh.l1.eq_2 ..) (Ends.pos (by omega) (Ends.pos hc (Ends.pos (by omega) ?_))), ?_⟩
   ·rw [rdN _ _ hlt, hp, twrap_id (most - c) (by omega) (by omega)]
    refine Ends.bind hu ?_
    rw [twrap_id (c + u) (by omega) (by omega), wrap_succ i (by omega)]
    exact hv
   ·rw [show ((wL (p :: r) : Nat) : Int) = (wN p : Int) + (wL r : Int) by simp [wL]]
    exact Res.next hc (by omega) (by omega) (fun q => by have := hu3 (by omega); omega) (fun q => hu4 (by omega)) hr3
  ·exact ⟨c, Ends.step (fun k => arboristref42_weigh.l1.eq_2 ..) (Ends.pos (by omega) (Ends.neg hc (Ends.const _))), Res.over h1 h2 (by omega) (by omega)⟩
theorem weigh_l0 (ih : ∀ p ∈ x.f6, ∀ m : Int, 0 ≤ m → m ≤ 300 → ∃ v, Ends (fun k => arboristref42_weigh.f k p.f0 p.f1 p.f2 p.f3 p.f4 p.f5 p.f6 m) v ∧ Res m 0 (wN p) v) : ∀ (r : List S46) (i : Nat) (c : Int), x.f4.drop i = r → i ≤ x.f4.length → 1 ≤ c → c ≤ most + 281474976710656 →
  ∃ v, Ends (fun k => arboristref42_weigh.l0 k most c (i : Int) x.f0 x.f1 x.f2 x.f3 x.f4 x.f5 x.f6) v ∧ Res most c ((((r.map (fun p => p.f2.size / 16)).sum : Nat) : Int) + (wL x.f6 : Int)) v := by
 have hk := hx.lead
 intro r
 induction r with
 | nil =>
  intro i c hr hi h1 h2
  have e := tdrop_nil hr hi
  obtain ⟨v, hv, hr3⟩ := weigh_l1 x hx most hm0 hm1 ih x.f6 0 c rfl (by omega) h1 h2
  refine ⟨v, Ends.step (fun k => arboristref42_weigh.l0.eq_2 ..) (Ends.neg (by omega) (Ends.step (fun k => arboristref42_weigh.j1.eq_2 ..) hv)), by simpa using hr3⟩
 | cons p r ihr =>
  intro i c hr hi h1 h2
  obtain ⟨hlt, hp, hr2⟩ := tdrop_cons hr
  have hsz := hx.leads p (hp ▸ List.getElem_mem hlt)
  by_cases hc : c ≤ most
  ·obtain ⟨v, hv, hr3⟩ := ihr (i + 1) (c + (p.f2.size : Int) / 16) hr2 hlt (by omega) (by omega)
   refine ⟨v, Ends.step (fun k => arboristref42_weigh.l0.eq_2 ..) (Ends.pos (by omega) (Ends.pos hc (Ends.pos (by omega) ?_))), ?_⟩
   ·rw [rdT _ _ hlt, hp, twrap_id ((p.f2.size : Int) / 16) (by omega) (by omega), twrap_id (c + (p.f2.size : Int) / 16) (by omega) (by omega), wrap_succ i (by omega)]
    exact hv
   ·have e : ((((p :: r).map (fun p => p.f2.size / 16)).sum : Nat) : Int) + (wL x.f6 : Int) = (p.f2.size : Int) / 16 + ((((r.map (fun p => p.f2.size / 16)).sum : Nat) : Int) + (wL x.f6 : Int)) := by
     simp only [List.map_cons, List.sum_cons]; omega
    rw [e]
    exact Res.next hc (by omega) (by omega) (fun _ => rfl) (fun q => q) hr3
  ·obtain ⟨v, hv, hr3⟩ := weigh_l1 x hx most hm0 hm1 ih x.f6 0 c rfl (by omega) h1 h2
   refine ⟨v, Ends.step (fun k => arboristref42_weigh.l0.eq_2 ..) (Ends.pos (by omega) (Ends.neg hc (Ends.step (fun k => arboristref42_weigh.j1.eq_2 ..) hv))), hr3.1, hr3.2.1, fun q => ?_, fun q => ?_⟩
   ·omega
   ·exact hr3.2.2.2 (by omega)
end
theorem weigh_ends : ∀ (n : Nat) (x : S26), SizeOf.sizeOf x < n → ok26 x → ∀ m : Int, 0 ≤ m → m ≤ 300 → ∃ v, Ends (fun k => arboristref42_weigh.f k x.f0 x.f1 x.f2 x.f3 x.f4 x.f5 x.f6 m) v ∧ Res m 0 (wN x) v := by
 intro n
 induction n with
 | zero => intro x h; omega
 | succ n ihn =>
  intro x hs hok m h0 h1
  have hx := okN hok
  have hl := hx.lead
  have ht := hx.text
  obtain ⟨v, hv, hr⟩ := weigh_l0 x hx m h0 h1 (fun p hp m' h0' h1' => ihn p (by have := kid_lt hp; omega) (hx.each p hp) m' h0' h1') x.f4 0 (1 + (x.f4.length : Int) + (x.f5.size : Int) / 16) rfl (by omega) (by omega) (by omega)
  refine ⟨v, Ends.step (fun k => arboristref42_weigh.f.eq_2 ..) ?_, hr.1, hr.2.1, fun q => ?_, fun q => ?_⟩
  ·rw [twrap_id (1 + (x.f4.length : Int)) (by omega) (by omega), twrap_id ((x.f5.size : Int) / 16) (by omega) (by omega), twrap_id (1 + (x.f4.length : Int) + (x.f5.size : Int) / 16) (by omega) (by omega)]
   exact hv
  ·rw [wN_eq] at q ⊢
   have := hr.2.2.1 (by push_cast at q ⊢; omega)
   push_cast; omega
  ·rw [wN_eq] at q
   exact hr.2.2.2 (by push_cast at q ⊢; omega)
theorem tfew_ends (x : S26) (hok : ok26 x) : Ends (fun k => arboristref42_Few.f k x.f0 x.f1 x.f2 x.f3 x.f4 x.f5 x.f6 300) (decide (wN x ≤ 300)) := by
 obtain ⟨v, hv, h1, h2, h3, h4⟩ := weigh_ends _ x (Nat.lt_succ_self _) hok 300 (by omega) (by omega)
 unfold arboristref42_Few.f
 refine Ends.val (Ends.bind hv (Ends.const _)) ?_
 rw [decide_eq_decide]
 constructor
 ·intro q
  rcases Nat.lt_or_ge 300 (wN x) with z | z
  ·have := h4 (by omega); omega
  ·exact z
 ·intro q
  have := h3 (by omega); omega
end
section
open Go.Proofs.YtphmgaijkdflnaaDoorW.PrintWords Go.Proofs.YtphmgaijkdflnaaDoorW.PrintLast Go.Proofs.YtphmgaijkdflnaaDoorW.PrintMore
theorem node_ind {P : S26 → Prop} (h : ∀ x, (∀ y ∈ x.f6, P y) → P x) : ∀ x, P x := by
 have : ∀ (n : Nat) (x : S26), SizeOf.sizeOf x < n → P x := by
  intro n
  induction n with
  | zero => intro x hx; omega
  | succ n ih => exact fun x hx => h x fun y hy => ih y (by have := kid_lt hy; omega)
 exact fun x => this _ x (Nat.lt_succ_self _)
def nodeW (y : S26) : Nat := 1 + y.f4.length + y.f5.size / 16 + (y.f4.map (fun p => p.f2.size / 16)).sum
theorem wN_sum (x : S26) : wN x = ((preN x).map nodeW).sum := by
 refine node_ind (P := fun x => wN x = ((preN x).map nodeW).sum) (fun x ih => ?_) x
 have hl : ∀ l : List S26, (∀ y ∈ l, wN y = ((preN y).map nodeW).sum) → wL l = ((preL l).map nodeW).sum := by
  intro l
  induction l with
  | nil => intro _; rfl
  | cons k r ihr => intro h; simp only [wL, preL, List.map_append, List.sum_append_nat]; rw [h k List.mem_cons_self, ihr fun y hy => h y (List.mem_cons_of_mem _ hy)]
 rw [wN_eq, preN_eq, List.map_cons, List.sum_cons, ← hl _ ih]
 rfl
theorem sum_mem {α : Type} (f : α → Nat) : ∀ {l : List α} {y : α}, y ∈ l → f y ≤ (l.map f).sum
 | z :: r, y, h => by
  simp only [List.map_cons, List.sum_cons]
  rcases List.mem_cons.1 h with rfl | h
  ·omega
  ·have := sum_mem f h; omega
theorem sum_len {α : Type} (f : α → Nat) (hf : ∀ y, 1 ≤ f y) : ∀ l : List α, l.length ≤ (l.map f).sum
 | [] => Nat.le_refl _
 | z :: r => by
  have := sum_len f hf r
  have := hf z
  simp only [List.map_cons, List.sum_cons, List.length_cons]; omega
theorem own_size (y : S26) : szB (ownOf y) ≤ 16 * nodeW y := by
 have h : ∀ l : List S46, szB (l.map (·.f2)) ≤ 16 * (l.map (fun p => p.f2.size / 16)).sum + 15 * l.length := by
  intro l
  induction l with
  | nil => simp [szB]
  | cons p r ih =>
   simp only [szB, List.map_cons, List.sum_cons, List.length_cons] at ih ⊢
   omega
 have h1 := h y.f4
 unfold ownOf nodeW
 split
 ·simp [szB]
 ·rw [szB_append]
  have : szB [y.f5] = y.f5.size := by simp [szB]
  omega
theorem szB_flat (l : List S26) : szB (l.flatMap ownOf) ≤ 16 * (l.map nodeW).sum := by
 induction l with
 | nil => simp [szB]
 | cons y r ih =>
  have := own_size y
  simp only [List.flatMap_cons, szB_append, List.map_cons, List.sum_cons]
  omega
theorem nodeW_pos (y : S26) : 1 ≤ nodeW y := by unfold nodeW; omega
theorem nodeW_mem {x y : S26} (h : y ∈ preN x) : nodeW y ≤ wN x := by rw [wN_sum]; exact sum_mem nodeW h
theorem pre_len (x : S26) : (preN x).length ≤ wN x := by rw [wN_sum]; exact sum_len nodeW nodeW_pos _
theorem pre_size (x : S26) : szB ((preN x).flatMap ownOf) ≤ 16 * wN x := by rw [wN_sum]; exact szB_flat _
theorem mild_of {x : S26} (h : wN x ≤ 300) : Mild x := by
 have h1 := pre_len x
 have h2 := pre_size x
 refine ⟨fun y hy => ?_, by omega, by omega⟩
 have := nodeW_mem hy
 unfold nodeW at this
 omega
theorem wL_mem : ∀ {l : List S26} {y : S26}, y ∈ l → wN y ≤ wL l
 | z :: r, y, h => by
  simp only [wL]
  rcases List.mem_cons.1 h with rfl | h
  ·omega
  ·have := wL_mem h; omega
theorem wN_kid {x y : S26} (h : y ∈ x.f6) : wN y ≤ wN x := by have := wL_mem h; have := wN_eq x; omega
theorem pre_all {P : S26 → Prop} (hk : ∀ x, P x → ∀ y ∈ x.f6, P y) (x : S26) : P x → ∀ y ∈ preN x, P y := by
 refine node_ind (P := fun x => P x → ∀ y ∈ preN x, P y) (fun x ih hx y hy => ?_) x
 rw [preN_eq] at hy
 rcases List.mem_cons.1 hy with rfl | hy
 ·exact hx
 ·rw [preL_flat] at hy
  obtain ⟨l, hl, hyl⟩ := List.mem_flatten.1 hy
  obtain ⟨z, hz, rfl⟩ := List.mem_map.1 hl
  exact ih z hz (hk x hx z hz) y hyl
theorem ok_pre {x : S26} (h : ok26 x) : ∀ y ∈ preN x, ok26 y := pre_all (fun x hx => (okN hx).each) x h
theorem size_l0 (x : S26) (hx : OkN x) (ih : ∀ p ∈ x.f6, Ends (fun k => arboristref42_Size.f k p.f0 p.f1 p.f2 p.f3 p.f4 p.f5 p.f6) ((preN p).length : Int)) : ∀ (r : List S26) (i c : Nat), x.f6.drop i = r → i ≤ x.f6.length → c + wL r ≤ 4294967296 →
  Ends (fun k => arboristref42_Size.l0 k (c : Int) (i : Int) x.f0 x.f1 x.f2 x.f3 x.f4 x.f5 x.f6) ((c + (preL r).length : Nat) : Int) := by
 have hk := hx.kids
 intro r
 induction r with
 | nil =>
  intro i c hr hi hb
  have e := tdrop_nil hr hi
  exact Ends.step (fun k => arboristref42_Size.l0.eq_2 ..) (Ends.neg (by omega) (Ends.val (Ends.const _) (by simp [preL])))
 | cons p r ihr =>
  intro i c hr hi hb
  obtain ⟨hlt, hp, hr2⟩ := tdrop_cons hr
  have hsz := pre_len p
  simp only [wL] at hb
  have h3 := ihr (i + 1) (c + (preN p).length) hr2 hlt (by omega)
  refine Ends.step (fun k => arboristref42_Size.l0.eq_2 ..) (Ends.pos (by omega) (Ends.pos (by omega) ?_))
  rw [rdN _ _ hlt, hp]
  refine Ends.bind (ih p (hp ▸ List.getElem_mem hlt)) ?_
  rw [wrap_succ i (by omega), show wrap64 ((c : Int) + ((preN p).length : Int)) = ((c + (preN p).length : Nat) : Int) by unfold wrap64; omega]
  refine Ends.val h3 ?_
  simp only [preL, List.length_append]
  omega
theorem rsize_ends (x : S26) : ok26 x → wN x ≤ 300 → Ends (fun k => arboristref42_Size.f k x.f0 x.f1 x.f2 x.f3 x.f4 x.f5 x.f6) ((preN x).length : Int) := by
 refine node_ind (P := fun x => ok26 x → wN x ≤ 300 → Ends (fun k => arboristref42_Size.f k x.f0 x.f1 x.f2 x.f3 x.f4 x.f5 x.f6) ((preN x).length : Int)) (fun x ih hok hw => ?_) x
 have hx := okN hok
 have h3 := size_l0 x hx (fun p hp => ih p hp (hx.each p hp) (by have := wN_kid hp; omega)) x.f6 0 1 rfl (by omega) (by have := wN_eq x; omega)
 refine Ends.step (fun k => arboristref42_Size.f.eq_2 ..) (Ends.val h3 ?_)
 rw [preN_eq, List.length_cons]
 omega
end
section
open Go.Proofs.YtphmgaijkdflnaaDoorW.PrintWords Go.Proofs.YtphmgaijkdflnaaDoorW.PrintLast Go.Proofs.YtphmgaijkdflnaaDoorW.PrintMore
attribute [local instance] Classical.propDecidable
end
section
open Go.Shelf Go.Proofs.YtphmgaijkdflnaaDoorW.PrintWords Go.Proofs.YtphmgaijkdflnaaDoorW.PrintLast Go.Proofs.YtphmgaijkdflnaaDoorW.PrintMore
open Go.Maps
attribute [local go_sem] Oper.semAt_some
section
variable (k : Nat) (l0_0 l0_1 : List ByteArray) (l0_2 : List Int) (l0_3 : List S58) (l0_4 : List S61)
def okGo (y : S26) : Option Bool :=
 if y.f2 < 0 then some false else if y.f0 = 0 then some false else if y.f0 = -1 then some false else
 if 0 < y.f0 then cst_rightLeaf.f k l0_0 l0_1 l0_2 l0_3 l0_4 y.f0 y.f1 y.f2 y.f3 y.f4 y.f5 y.f6 else cst_rightInner.f k l0_0 l0_1 l0_2 l0_3 l0_4 y.f0 y.f1 y.f2 y.f3 y.f4 y.f5 y.f6
def allGo : List S26 → Option Bool
 | [] => some true
 | y :: r => (okGo k l0_0 l0_1 l0_2 l0_3 l0_4 y).bind fun b => if b = true then allGo r else some false
def lastGo (k0 k1 : S26) : Option Bool :=
 (cst_rightLeaf.f k l0_0 l0_1 l0_2 l0_3 l0_4 k1.f0 k1.f1 k1.f2 k1.f3 k1.f4 k1.f5 k1.f6).bind fun b => if b = true then (if k1.f2 < 0 then some false else allGo k l0_0 l0_1 l0_2 l0_3 l0_4 (preN k0)) else some false
def kidsGo : List S26 → Option Bool
 | [k0, k1] => if 0 < l0_3.length ∧ 0 < (rd_T58 l0_3 0).f1.length then
   (if k0.f0 = rd (rd_T58 l0_3 0).f1 0 then (if k1.f0 = 0 then lastGo k l0_0 l0_1 l0_2 l0_3 l0_4 k0 k1 else some false) else some false) else none
 | _ => some false
def headGo (x : S26) (z : Int) : Option Bool :=
 if 65536 < z then some false else if x.f0 ≠ -1 then some false else if x.f1 ≠ 0 then some false else if x.f3 ≠ 0 then some false else if x.f2 < 0 then some false else
 if 0 < x.f4.length then some false else if x.f5.toList ≠ [] then some false else kidsGo k l0_0 l0_1 l0_2 l0_3 l0_4 x.f6
def rightGo (x : S26) : Option Bool :=
 (grammar_Right.f k l0_0 l0_1 l0_2 l0_3 l0_4).bind fun t => if t = 0 then ((cst_Size.f x.f0 x.f1 x.f2 x.f3 x.f4 x.f5 x.f6).bind fun z => headGo k l0_0 l0_1 l0_2 l0_3 l0_4 x z) else some false
def cst_Right.f (a1_0 : Int) (a1_1 : Int) (a1_2 : Int) (a1_3 : Int) (l1_4 : List S46) (a1_5 : ByteArray) (l1_6 : List S26) : Option Bool := rightGo k l0_0 l0_1 l0_2 l0_3 l0_4 ⟨a1_0, a1_1, a1_2, a1_3, l1_4, a1_5, l1_6⟩
end
section
variable (l0_0 l0_1 : List ByteArray) (l0_2 : List Int) (l0_3 : List S58) (l0_4 : List S61)
theorem okGo.mono (k : Nat) (y : S26) : LeO (okGo k l0_0 l0_1 l0_2 l0_3 l0_4 y) (okGo (k + 1) l0_0 l0_1 l0_2 l0_3 l0_4 y) := by
 unfold okGo
 exact LeO.ite (LeO.refl _) (LeO.ite (LeO.refl _) (LeO.ite (LeO.refl _) (LeO.ite (cst_rightLeaf.mono _ _ _ _ _ _ _ _ _ _ _ _ k) (cst_rightInner.mono _ _ _ _ _ _ _ _ _ _ _ _ k))))
theorem allGo.mono (k : Nat) : ∀ l : List S26, LeO (allGo k l0_0 l0_1 l0_2 l0_3 l0_4 l) (allGo (k + 1) l0_0 l0_1 l0_2 l0_3 l0_4 l)
 | [] => LeO.refl _
 | y :: r => LeO.bind (okGo.mono _ _ _ _ _ k y) fun b => LeO.ite (allGo.mono k r) (LeO.refl _)
theorem lastGo.mono (k : Nat) (k0 k1 : S26) : LeO (lastGo k l0_0 l0_1 l0_2 l0_3 l0_4 k0 k1) (lastGo (k + 1) l0_0 l0_1 l0_2 l0_3 l0_4 k0 k1) := by
 unfold lastGo
 exact LeO.bind (cst_rightLeaf.mono _ _ _ _ _ _ _ _ _ _ _ _ k) fun b => LeO.ite (LeO.ite (LeO.refl _) (allGo.mono _ _ _ _ _ k _)) (LeO.refl _)
theorem kidsGo.mono (k : Nat) (l : List S26) : LeO (kidsGo k l0_0 l0_1 l0_2 l0_3 l0_4 l) (kidsGo (k + 1) l0_0 l0_1 l0_2 l0_3 l0_4 l) := by
 unfold kidsGo
 split
 ·exact LeO.ite (LeO.ite (LeO.ite (lastGo.mono _ _ _ _ _ k _ _) (LeO.refl _)) (LeO.refl _)) (LeO.refl _)
 ·exact LeO.refl _
theorem headGo.mono (k : Nat) (x : S26) (z : Int) : LeO (headGo k l0_0 l0_1 l0_2 l0_3 l0_4 x z) (headGo (k + 1) l0_0 l0_1 l0_2 l0_3 l0_4 x z) := by
 unfold headGo
 repeat' first | exact LeO.refl _ | exact kidsGo.mono _ _ _ _ _ k _ | refine LeO.ite ?_ ?_
theorem rightGo.mono (k : Nat) (x : S26) : LeO (rightGo k l0_0 l0_1 l0_2 l0_3 l0_4 x) (rightGo (k + 1) l0_0 l0_1 l0_2 l0_3 l0_4 x) := by
 unfold rightGo
 exact LeO.bind (grammar_Right.mono _ _ _ _ _ k) fun t => LeO.ite (LeO.bind (LeO.refl _) fun z => headGo.mono _ _ _ _ _ k x z) (LeO.refl _)
end
theorem allGo_at (k : Nat) (l0_0 l0_1 : List ByteArray) (l0_2 : List Int) (l0_3 : List S58) (l0_4 : List S61) (y : S26) (post : List S26) {r : Bool} : ∀ pre : List S26, (∀ e ∈ pre, okGo k l0_0 l0_1 l0_2 l0_3 l0_4 e = some true) → allGo k l0_0 l0_1 l0_2 l0_3 l0_4 (pre ++ y :: post) = some r → ∃ b, okGo k l0_0 l0_1 l0_2 l0_3 l0_4 y = some b ∧ (b = false → r = false)
 | [], _, h => by
  obtain ⟨b, h1, h2⟩ := Option.bind_eq_some_iff.1 h
  refine ⟨b, h1, fun e => ?_⟩
  subst e
  simpa using h2.symm
 | e :: pre, hp, h => by
  obtain ⟨b, h1, h2⟩ := Option.bind_eq_some_iff.1 h
  obtain rfl : b = true := by have := hp e List.mem_cons_self; rw [h1] at this; exact Option.some.inj this
  exact allGo_at k _ _ _ _ _ y post pre (fun d hd => hp d (List.mem_cons_of_mem _ hd)) (by simpa using h2)
theorem allGo_all (k : Nat) (l0_0 l0_1 : List ByteArray) (l0_2 : List Int) (l0_3 : List S58) (l0_4 : List S61) : ∀ pre : List S26, (∀ e ∈ pre, okGo k l0_0 l0_1 l0_2 l0_3 l0_4 e = some true) → allGo k l0_0 l0_1 l0_2 l0_3 l0_4 pre = some true
 | [], _ => rfl
 | e :: pre, hp => by
  unfold allGo
  rw [hp e List.mem_cons_self]
  exact allGo_all k _ _ _ _ _ pre (fun d hd => hp d (List.mem_cons_of_mem _ hd))
section
variable {w W : World} {A0 : Option Addr} {c0 : Nat} {l0_0 : List ByteArray} {A1 : Option Addr} {c1 : Nat} {l0_1 : List ByteArray} {A2 : Option Addr} {c2 : Nat} {l0_2 : List Int} {A3 : Option Addr} {c3 : Nat} {l0_3 : List S58} {A4 : Option Addr} {c4 : Nat} {l0_4 : List S61}
theorem InG.leaf {k : Nat} {r : Bool} (G : InG W A0 c0 l0_0 A1 c1 l0_1 A2 c2 l0_2 A3 c3 l0_3 A4 c4 l0_4) {y : S26} {B4 : Option Addr} {d4 : Nat} {B6 : Option Addr} {d6 : Nat} (O : NodeE.Ok W ⟨y, B4, d4, B6, d6⟩) (h : cst_rightLeaf.f k l0_0 l0_1 l0_2 l0_3 l0_4 y.f0 y.f1 y.f2 y.f3 y.f4 y.f5 y.f6 = some r) :
  Calls Tryd.prog 39 #[.agg #[.slice A0 l0_0.length c0, .slice A1 l0_1.length c1, .slice A2 l0_2.length c2, .slice A3 l0_3.length c3, .slice A4 l0_4.length c4], .agg #[.int .i64 y.f0, .int .i64 y.f1, .int .i64 y.f2, .int .i64 y.f3, .slice B4 y.f4.length d4, .string y.f5, .slice B6 y.f6.length d6]] W fun e w' => e = .returned (.bool r) ∧ Below W.heap.size W w' :=
 cst_rightLeaf.calls k _ _ _ _ _ _ _ _ _ _ _ _ _ _ _ _ _ _ _ _ _ _ _ _ _ _ r W G.r0 G.h0 G.r1 G.h1 G.r2 G.h2 G.r3 G.h3 G.r4 G.h4 O.g4 O.l4 O.g6 O.l6 h
theorem InG.inner {k : Nat} {r : Bool} (G : InG W A0 c0 l0_0 A1 c1 l0_1 A2 c2 l0_2 A3 c3 l0_3 A4 c4 l0_4) {y : S26} {B4 : Option Addr} {d4 : Nat} {B6 : Option Addr} {d6 : Nat} (O : NodeE.Ok W ⟨y, B4, d4, B6, d6⟩) (h : cst_rightInner.f k l0_0 l0_1 l0_2 l0_3 l0_4 y.f0 y.f1 y.f2 y.f3 y.f4 y.f5 y.f6 = some r) :
  Calls Tryd.prog 40 #[.agg #[.slice A0 l0_0.length c0, .slice A1 l0_1.length c1, .slice A2 l0_2.length c2, .slice A3 l0_3.length c3, .slice A4 l0_4.length c4], .agg #[.int .i64 y.f0, .int .i64 y.f1, .int .i64 y.f2, .int .i64 y.f3, .slice B4 y.f4.length d4, .string y.f5, .slice B6 y.f6.length d6]] W fun e w' => e = .returned (.bool r) ∧ Below W.heap.size W w' :=
 cst_rightInner.calls k _ _ _ _ _ _ _ _ _ _ _ _ _ _ _ _ _ _ _ _ _ _ _ _ _ _ r W G.r0 G.h0 G.r1 G.h1 G.r2 G.h2 G.r3 G.h3 G.r4 G.h4 O.g4 O.l4 O.g6 O.l6 h
theorem InG.right {k : Nat} {r : Int} (G : InG W A0 c0 l0_0 A1 c1 l0_1 A2 c2 l0_2 A3 c3 l0_3 A4 c4 l0_4) (h : grammar_Right.f k l0_0 l0_1 l0_2 l0_3 l0_4 = some r) :
  Calls Tryd.prog 38 #[.agg #[.slice A0 l0_0.length c0, .slice A1 l0_1.length c1, .slice A2 l0_2.length c2, .slice A3 l0_3.length c3, .slice A4 l0_4.length c4]] W fun e w' => e = .returned (.int .i64 r) ∧ Below W.heap.size W w' :=
 grammar_Right.calls k _ _ _ _ _ _ _ _ _ _ _ _ _ _ _ r W G.r0 G.h0 G.r1 G.h1 G.r2 G.h2 G.r3 G.h3 G.r4 G.h4 h
theorem NodeE.Ok.size {y : S26} {B4 : Option Addr} {d4 : Nat} {B6 : Option Addr} {d6 : Nat} (O : NodeE.Ok W ⟨y, B4, d4, B6, d6⟩) {r : Int} (h : cst_Size.f y.f0 y.f1 y.f2 y.f3 y.f4 y.f5 y.f6 = some r) :
  Calls Tryd.prog 14 #[.agg #[.int .i64 y.f0, .int .i64 y.f1, .int .i64 y.f2, .int .i64 y.f3, .slice B4 y.f4.length d4, .string y.f5, .slice B6 y.f6.length d6]] W fun e w' => e = .returned (.int .i64 r) ∧ Below W.heap.size W w' :=
 cst_Size.calls _ _ _ _ _ _ _ _ _ _ _ r W O.g4 O.l4 O.g6 O.l6 h
end
section
variable {P : Program} {md : Region.Mode} {ops : Array Oper} {Q : Exit → Act → World → Prop} {S : World → Prop} {oi : Oper} {v : Value} {fuel : Nat} {listed : Array Bool} {a : Act} {w : World}
theorem tk (i : Nat) (hi : ops[i]? = some oi) (hQ : ∀ c a w, Q (.panic c) (a.put oi.dst v) w → Q (.panic c) a w) (hS : S w) (hw : Region.wanted oi (yielded ops a.tmps) = true) (hy : ∀ w, S w → (execOp a.eval oi).run P w = .ok (.value v) w)
  (h : wpAnyH P md ops Q S fuel (listed.setIfInBounds i true) (a.put oi.dst v) w) (hs : Region.noSelect ops = true := by kernel_rfl) (hf : Region.free md ops listed i = true := by kernel_rfl) (hr : (Region.ready md ops listed).contains i = true := by kernel_rfl) : wpAnyH P md ops Q S (fuel + 1) listed a w :=
 wpAnyH_take hi hs hf hr hQ (.inl ⟨hw, hy⟩) hS h
theorem tku (i : Nat) (hi : ops[i]? = some oi) (hQ : ∀ c a w, Q (.panic c) (a.put oi.dst undef) w → Q (.panic c) a w) (hS : S w) (hw : Region.wanted oi (yielded ops a.tmps) = false)
  (h : wpAnyH P md ops Q S fuel (listed.setIfInBounds i true) (a.put oi.dst undef) w) (hs : Region.noSelect ops = true := by kernel_rfl) (hf : Region.free md ops listed i = true := by kernel_rfl) (hr : (Region.ready md ops listed).contains i = true := by kernel_rfl) : wpAnyH P md ops Q S (fuel + 1) listed a w :=
 wpAnyH_take hi hs hf hr hQ (.inr ⟨hw, rfl⟩) hS h
structure OrdH (is : List (Nat × Nat)) (p : Prop) : Prop where
 out : p
theorem OrdH.enter (is : List (Nat × Nat)) {p : Prop} (h : OrdH is p) : p := h.out
theorem OrdH.step {i N : Nat} {is : List (Nat × Nat)} (hi : ops[i]? = some oi) (hN : oi.dst = some N) (hQ : ∀ c a w, Q (.panic c) (a.put oi.dst v) w → Q (.panic c) a w) (hS : S w) (hw : Region.wanted oi (yielded ops a.tmps) = true) (hy : ∀ w, S w → (execOp a.eval oi).run P w = .ok (.value v) w)
  {a' : Act} (ha : a.put (some N) v = a') (h : OrdH is (wpAnyH P md ops Q S fuel (listed.setIfInBounds i true) a' w)) (hs : Region.noSelect ops = true := by kernel_rfl) (hf : Region.free md ops listed i = true := by kernel_rfl) (hr : (Region.ready md ops listed).contains i = true := by kernel_rfl) : OrdH ((i, N) :: is) (wpAnyH P md ops Q S (fuel + 1) listed a w) :=
 ⟨tk i hi hQ hS hw hy (by rw [hN, ha]; exact h.out) hs hf hr⟩
theorem OrdH.skip {i N : Nat} {is : List (Nat × Nat)} (hi : ops[i]? = some oi) (hN : oi.dst = some N) (hQ : ∀ c a w, Q (.panic c) (a.put oi.dst undef) w → Q (.panic c) a w) (hS : S w) (hw : Region.wanted oi (yielded ops a.tmps) = false)
  {a' : Act} (ha : a.put (some N) undef = a') (h : OrdH is (wpAnyH P md ops Q S fuel (listed.setIfInBounds i true) a' w)) (hs : Region.noSelect ops = true := by kernel_rfl) (hf : Region.free md ops listed i = true := by kernel_rfl) (hr : (Region.ready md ops listed).contains i = true := by kernel_rfl) : OrdH ((i, N) :: is) (wpAnyH P md ops Q S (fuel + 1) listed a w) :=
 ⟨tku i hi hQ hS hw (by rw [hN, ha]; exact h.out) hs hf hr⟩
end
theorem kc {w W : World} {p : Addr} {v : Value} (hb : Below w.heap.size w W) (h : w.cell? p = some v) : W.cell? p = some v := (hb.cell (World.block_lt_of_cell? w _ h)).trans h
structure RS (w : World) (A0 : Option Addr) (c0 : Nat) (l0_0 : List ByteArray) (A1 : Option Addr) (c1 : Nat) (l0_1 : List ByteArray) (A2 : Option Addr) (c2 : Nat) (l0_2 : List Int) (A3 : Option Addr) (c3 : Nat) (l0_3 : List S58) (A4 : Option Addr) (c4 : Nat) (l0_4 : List S61) (x : S26) (B4 : Option Addr) (d4 : Nat) (B6 : Option Addr) (d6 : Nat) (W : World) : Prop where
 B : Below w.heap.size w W
 g : GB W w.heap.size A0 c0 l0_0 A1 c1 l0_1 A2 c2 l0_2 A3 c3 l0_3 A4 c4 l0_4
 n : W.heap[w.heap.size + 1]? = some (.cells #[.int .i64 x.f0, .int .i64 x.f1, .int .i64 x.f2, .int .i64 x.f3, .slice B4 x.f4.length d4, .string x.f5, .slice B6 x.f6.length d6] 26 (0, 0))
 c : W.heap[w.heap.size + 1 + 1]? = some (.cells #[.bool false] 4 (0, 0))
theorem RS.below {w W W' : World} {A0 : Option Addr} {c0 : Nat} {l0_0 : List ByteArray} {A1 : Option Addr} {c1 : Nat} {l0_1 : List ByteArray} {A2 : Option Addr} {c2 : Nat} {l0_2 : List Int} {A3 : Option Addr} {c3 : Nat} {l0_3 : List S58} {A4 : Option Addr} {c4 : Nat} {l0_4 : List S61} {x : S26} {B4 : Option Addr} {d4 : Nat} {B6 : Option Addr} {d6 : Nat} (h : RS w A0 c0 l0_0 A1 c1 l0_1 A2 c2 l0_2 A3 c3 l0_3 A4 c4 l0_4 x B4 d4 B6 d6 W) (hb : Below W.heap.size W W') : RS w A0 c0 l0_0 A1 c1 l0_1 A2 c2 l0_2 A3 c3 l0_3 A4 c4 l0_4 x B4 d4 B6 d6 W' :=
 ⟨h.B.trans (hb.mono h.B.size), h.g.below hb, blk_below h.n hb, blk_below h.c hb⟩
theorem RS.start (w : World) (A0 : Option Addr) (c0 : Nat) (l0_0 : List ByteArray) (A1 : Option Addr) (c1 : Nat) (l0_1 : List ByteArray) (A2 : Option Addr) (c2 : Nat) (l0_2 : List Int) (A3 : Option Addr) (c3 : Nat) (l0_3 : List S58) (A4 : Option Addr) (c4 : Nat) (l0_4 : List S61) (x : S26) (B4 : Option Addr) (d4 : Nat) (B6 : Option Addr) (d6 : Nat) : RS w A0 c0 l0_0 A1 c1 l0_1 A2 c2 l0_2 A3 c3 l0_3 A4 c4 l0_4 x B4 d4 B6 d6 (((w.alloc (.cells #[.slice A0 l0_0.length c0, .slice A1 l0_1.length c1, .slice A2 l0_2.length c2, .slice A3 l0_3.length c3, .slice A4 l0_4.length c4] 40)).alloc (.cells #[.int .i64 x.f0, .int .i64 x.f1, .int .i64 x.f2, .int .i64 x.f3, .slice B4 x.f4.length d4, .string x.f5, .slice B6 x.f6.length d6] 26)).alloc (.cells #[.bool false] 4)) := by
 obtain ⟨h1, h2, h3, h4, _⟩ := alloc3 w (.cells #[.slice A0 l0_0.length c0, .slice A1 l0_1.length c1, .slice A2 l0_2.length c2, .slice A3 l0_3.length c3, .slice A4 l0_4.length c4] 40) (.cells #[.int .i64 x.f0, .int .i64 x.f1, .int .i64 x.f2, .int .i64 x.f3, .slice B4 x.f4.length d4, .string x.f5, .slice B6 x.f6.length d6] 26) (.cells #[.bool false] 4)
 exact ⟨h1, h2, h3, h4⟩
theorem RS.cells {w W : World} {A0 : Option Addr} {c0 : Nat} {l0_0 : List ByteArray} {A1 : Option Addr} {c1 : Nat} {l0_1 : List ByteArray} {A2 : Option Addr} {c2 : Nat} {l0_2 : List Int} {A3 : Option Addr} {c3 : Nat} {l0_3 : List S58} {A4 : Option Addr} {c4 : Nat} {l0_4 : List S61} {x : S26} {B4 : Option Addr} {d4 : Nat} {B6 : Option Addr} {d6 : Nat} (h : RS w A0 c0 l0_0 A1 c1 l0_1 A2 c2 l0_2 A3 c3 l0_3 A4 c4 l0_4 x B4 d4 B6 d6 W) : W.cell? ⟨w.heap.size + 1, 0, none⟩ = some (.int .i64 x.f0) ∧ W.cell? ⟨w.heap.size + 1, 1, none⟩ = some (.int .i64 x.f1) ∧ W.cell? ⟨w.heap.size + 1, 2, none⟩ = some (.int .i64 x.f2) ∧ W.cell? ⟨w.heap.size + 1, 3, none⟩ = some (.int .i64 x.f3) ∧ W.cell? ⟨w.heap.size + 1, 4, none⟩ = some (.slice B4 x.f4.length d4) ∧ W.cell? ⟨w.heap.size + 1, 5, none⟩ = some (.string x.f5) ∧ W.cell? ⟨w.heap.size + 1, 6, none⟩ = some (.slice B6 x.f6.length d6) ∧ W.cell? ⟨w.heap.size + 1 + 1, 0, none⟩ = some (.bool false) ∧ W.frozen? ⟨w.heap.size + 1 + 1, 0, none⟩ = false :=
 ⟨(blk_cell h.n 0).trans rfl, (blk_cell h.n 1).trans rfl, (blk_cell h.n 2).trans rfl, (blk_cell h.n 3).trans rfl, (blk_cell h.n 4).trans rfl, (blk_cell h.n 5).trans rfl, (blk_cell h.n 6).trans rfl, (blk_cell h.c 0).trans rfl, blk_frozen h.c 0⟩
theorem right_ret0 {w W : World} {tmps : Array Value} {b r : Bool} (h2 : W.heap[w.heap.size + 1 + 1]? = some (.cells #[.bool b] 4 (0, 0))) (hB : Below w.heap.size w W) (hr : b = r) (t4 : tmps[4]? = some (.pointer (some ⟨w.heap.size + 1 + 1, 0, none⟩)) := by rfl) :
  bodyPostM Fence.wide 0 Tryd.prog Tryd.f24 (fun e w' => e = .returned (.bool r) ∧ Below w.heap.size w w') .ret { tmps := tmps, defers := [] } W := by
 subst hr
 have c0 : W.cell? ⟨w.heap.size + 1 + 1, 0, none⟩ = some (.bool b) := (blk_cell h2 0).trans rfl
 exact ⟨.bool b, by simp [results, Tryd.f24, go_sem, c0, t4], rfl, hB⟩
theorem right_end {w W : World} {tmps : Array Value} {D : Nat} {b : Bool} (h2 : W.heap[w.heap.size + 1 + 1]? = some (.cells #[.bool b] 4 (0, 0))) (hD : W.heap[D]? = some (.deferred (some []))) (hB : Below w.heap.size w W) (hd : w.heap.size + 1 + 1 < D)
  {r : Bool} (hr : b = r) (t4 : tmps[4]? = some (.pointer (some ⟨w.heap.size + 1 + 1, 0, none⟩)) := by rfl) :
  bodyPostM Fence.wide 0 Tryd.prog Tryd.f24 (fun e w' => e = .returned (.bool r) ∧ Below w.heap.size w w') .ret { tmps := tmps, defers := [{ target := .collected D, args := #[] }] } W := by
 subst hr
 have k2 : (W.putObj D (.deferred none)).heap[w.heap.size + 1 + 1]? = _ := (World.putObj_heap_other (by omega)).trans h2
 have c0 : (W.putObj D (.deferred none)).cell? ⟨w.heap.size + 1 + 1, 0, none⟩ = some (.bool b) := (blk_cell k2 0).trans rfl
 refine ret_collected2 (v := .bool b) hD ?_ ⟨rfl, below_collected hB (by omega)⟩
 simp [results, Tryd.f24, go_sem, c0, t4]
structure RB (w : World) (A0 : Option Addr) (c0 : Nat) (l0_0 : List ByteArray) (A1 : Option Addr) (c1 : Nat) (l0_1 : List ByteArray) (A2 : Option Addr) (c2 : Nat) (l0_2 : List Int) (A3 : Option Addr) (c3 : Nat) (l0_3 : List S58) (A4 : Option Addr) (c4 : Nat) (l0_4 : List S61) (lo : Nat) (X : Nat → Prop) (W : World) : Prop where
 own : OwnI w lo X W
 far : w.heap.size + 1 + 1 < lo
 g : GB W w.heap.size A0 c0 l0_0 A1 c1 l0_1 A2 c2 l0_2 A3 c3 l0_3 A4 c4 l0_4
 c : W.heap[w.heap.size + 1 + 1]? = some (.cells #[.bool false] 4 (0, 0))
theorem RB.step {w : World} {A0 : Option Addr} {c0 : Nat} {l0_0 : List ByteArray} {A1 : Option Addr} {c1 : Nat} {l0_1 : List ByteArray} {A2 : Option Addr} {c2 : Nat} {l0_2 : List Int} {A3 : Option Addr} {c3 : Nat} {l0_3 : List S58} {A4 : Option Addr} {c4 : Nat} {l0_4 : List S61} {lo : Nat} {X X' : Nat → Prop} {W W' : World} (h : RB w A0 c0 l0_0 A1 c1 l0_1 A2 c2 l0_2 A3 c3 l0_3 A4 c4 l0_4 lo X W) (hs : IStep X W W' X') : RB w A0 c0 l0_0 A1 c1 l0_1 A2 c2 l0_2 A3 c3 l0_3 A4 c4 l0_4 lo X' W' :=
 ⟨h.own.step hs, h.far, h.own.keep hs (by have := h.far; omega) h.g, h.own.keep hs h.far h.c⟩
def RI (w : World) (A0 : Option Addr) (c0 : Nat) (l0_0 : List ByteArray) (A1 : Option Addr) (c1 : Nat) (l0_1 : List ByteArray) (A2 : Option Addr) (c2 : Nat) (l0_2 : List Int) (A3 : Option Addr) (c3 : Nat) (l0_3 : List S58) (A4 : Option Addr) (c4 : Nat) (l0_4 : List S61) (k : Nat) (lo : Nat) (pre : List NodeE) (X : Nat → Prop) (W : World) : Prop := (∀ e ∈ pre, okGo k l0_0 l0_1 l0_2 l0_3 l0_4 e.x = some true) ∧ RB w A0 c0 l0_0 A1 c1 l0_1 A2 c2 l0_2 A3 c3 l0_3 A4 c4 l0_4 lo X W
theorem RI.abides (w : World) (A0 : Option Addr) (c0 : Nat) (l0_0 : List ByteArray) (A1 : Option Addr) (c1 : Nat) (l0_1 : List ByteArray) (A2 : Option Addr) (c2 : Nat) (l0_2 : List Int) (A3 : Option Addr) (c3 : Nat) (l0_3 : List S58) (A4 : Option Addr) (c4 : Nat) (l0_4 : List S61) (k lo : Nat) : Abides (RI w A0 c0 l0_0 A1 c1 l0_1 A2 c2 l0_2 A3 c3 l0_3 A4 c4 l0_4 k lo) := fun pre X W W' X' h hs => ⟨h.1, h.2.step hs⟩
def RX (w : World) (r : Bool) (lo : Nat) (c : Code) (pre : List NodeE) (X : Nat → Prop) (W : World) : Prop := c = .ret ∧ r = false ∧ OwnI w lo X W ∧ w.heap.size + 1 + 1 < lo ∧ W.heap[w.heap.size + 1 + 1]? = some (.cells #[.bool false] 4 (0, 0))
theorem RX.abides (w : World) (r : Bool) (lo : Nat) (c : Code) : Abides (RX w r lo c) := fun pre X W W' X' h hs => ⟨h.1, h.2.1, h.2.2.1.step hs, h.2.2.2.1, h.2.2.1.keep hs h.2.2.2.1 h.2.2.2.2⟩
def RM (w : World) (A0 : Option Addr) (c0 : Nat) (l0_0 : List ByteArray) (A1 : Option Addr) (c1 : Nat) (l0_1 : List ByteArray) (A2 : Option Addr) (c2 : Nat) (l0_2 : List Int) (A3 : Option Addr) (c3 : Nat) (l0_3 : List S58) (A4 : Option Addr) (c4 : Nat) (l0_4 : List S61) (k lo : Nat) (T : Array Value) (pre : List NodeE) (y : NodeE) (a₁ : Act) (X : Nat → Prop) (W : World) : Prop :=
 RI w A0 c0 l0_0 A1 c1 l0_1 A2 c2 l0_2 A3 c3 l0_3 A4 c4 l0_4 k lo pre X W ∧ ∃ bx, W.heap[bx]? = some (.cells y.a 26 (0, 0)) ∧ ¬ X bx ∧ lo ≤ bx ∧ a₁ = { tmps := (T.setIfInBounds 94 y.v).setIfInBounds 5 (.pointer (some ⟨bx, 0, none⟩)), defers := [] }
theorem RM.abides (w : World) (A0 : Option Addr) (c0 : Nat) (l0_0 : List ByteArray) (A1 : Option Addr) (c1 : Nat) (l0_1 : List ByteArray) (A2 : Option Addr) (c2 : Nat) (l0_2 : List Int) (A3 : Option Addr) (c3 : Nat) (l0_3 : List S58) (A4 : Option Addr) (c4 : Nat) (l0_4 : List S61) (k lo : Nat) (T : Array Value) (pre : List NodeE) (y : NodeE) (a₁ : Act) : Abides (fun (_ : Unit) => RM w A0 c0 l0_0 A1 c1 l0_1 A2 c2 l0_2 A3 c3 l0_3 A4 c4 l0_4 k lo T pre y a₁) := fun _ X W W' X' h hs => by
 obtain ⟨hI, bx, h1, h2, h3, h4⟩ := h
 exact ⟨RI.abides w A0 c0 l0_0 A1 c1 l0_1 A2 c2 l0_2 A3 c3 l0_3 A4 c4 l0_4 k lo pre X W W' X' hI hs, bx, hs.keep h1 h2, hs.keepX (Array.getElem?_eq_some_iff.1 h1).1 h2, h3, h4⟩
theorem wp_range_T {α : Type} {P : Program} {g : Operand} {ps : Array Tmp} {assign body : Code} {Q : Exit → Act → World → Prop} {T : Array Value} {D : List Deferred} {w : World}
  {gf : Nat} {lb : Array Value} (hg : ({ tmps := T, defers := D } : Act).eval g = .func (.func gf) #[] lb) (eg : ∀ args w, (callFunc gf args).run P w = .ok (.enter gf args) w)
  {encs : α → Array Value} {K : Nat → Prop} {L : List α} {w0 : World} (hseq : Gives P gf lb encs K L w0) (hb0 : Below w0.heap.size w0 w) (hps : ∀ x, (encs x).size = ps.size)
  (I : List α → (Nat → Prop) → World → Prop) (Ix : Code → List α → (Nat → Prop) → World → Prop) (M : Array Value → List α → α → Act → (Nat → Prop) → World → Prop)
  (hI : Abides I) (hIx : ∀ c, Abides (Ix c)) (hM : ∀ pre x a₁, Abides (fun (_ : Unit) => M T pre x a₁)) (h0 : I [] (fun _ => False) w)
  (hassign : ∀ (l : Nat) (pre : List α) (x : α) (post : List α) (X : Nat → Prop) (W : World), L = pre ++ x :: post → I pre X W → (∀ k, X k → w.heap.size ≤ k ∧ k < W.heap.size) →
   assign.wpIn (Fence.wide.inRound l) 0 P (Exit.then (fun a₁ W₁ => Keeps (fun k => X k ∨ K k) W W₁ ∧ M T pre x a₁ X W₁) (fun _ _ _ => False)) { tmps := (ps.zip (encs x)).foldl (fun t (p, v) => t.setIfInBounds p v) T, defers := [] } W)
  (hbody : ∀ (l : Nat) (pre : List α) (x : α) (post : List α) (a₁ : Act) (X : Nat → Prop) (W : World), L = pre ++ x :: post → M T pre x a₁ X W → (∀ k, X k → w.heap.size ≤ k ∧ k < W.heap.size) →
   body.wpIn (Fence.wide.inRound l) 0 P (bodyEnds (fun k => X k ∨ K k) X I Ix (pre ++ [x]) W) a₁ W)
  (hdone : ∀ (X : Nat → Prop) (W : World), I L X W → X w.heap.size → (∀ k, X k → w.heap.size ≤ k ∧ k < W.heap.size) → W.heap[w.heap.size]? = some (.deferred (some [])) → Q .normal { tmps := T, defers := { target := .collected w.heap.size, args := #[] } :: D } W)
  (hstop : ∀ (c : Code) (pre : List α) (X : Nat → Prop) (W : World), pre <+: L → Ix c pre X W → X w.heap.size → W.heap[w.heap.size]? = some (.deferred (some [])) → c.wpIn Fence.wide 0 P Q { tmps := T, defers := { target := .collected w.heap.size, args := #[] } :: D } W) :
  (Code.rangeFunc g ps assign body).wpIn Fence.wide 0 P Q { tmps := T, defers := D } w :=
 wp_range hg eg hseq hb0 hps I Ix (M T) hI hIx hM h0 hassign hbody hdone hstop
theorem cst_Right.calls (k : Nat) (A0_0 : Option Addr) (c0_0 : Nat) (l0_0 : List ByteArray) (A0_1 : Option Addr) (c0_1 : Nat) (l0_1 : List ByteArray) (A0_2 : Option Addr) (c0_2 : Nat) (l0_2 : List Int) (A0_3 : Option Addr) (c0_3 : Nat) (l0_3 : List S58) (A0_4 : Option Addr) (c0_4 : Nat) (l0_4 : List S61) (a1_0 : Int) (a1_1 : Int) (a1_2 : Int) (a1_3 : Int) (A1_4 : Option Addr) (c1_4 : Nat) (l1_4 : List S46) (a1_5 : ByteArray) (A1_6 : Option Addr) (c1_6 : Nat) (l1_6 : List S26) (r : Bool) (w : World) (hr0_0 : Kd.C Kd.string w A0_0 l0_0.length l0_0) (hc0_0 : l0_0.length ≤ c0_0) (hr0_1 : Kd.C Kd.string w A0_1 l0_1.length l0_1) (hc0_1 : l0_1.length ≤ c0_1) (hr0_2 : Kd.C (Kd.int .i64) w A0_2 l0_2.length l0_2) (hc0_2 : l0_2.length ≤ c0_2) (hr0_3 : Kd.C k58 w A0_3 l0_3.length l0_3) (hc0_3 : l0_3.length ≤ c0_3) (hr0_4 : Kd.C k61 w A0_4 l0_4.length l0_4) (hc0_4 : l0_4.length ≤ c0_4) (hr1_4 : Kd.C k46 w A1_4 l1_4.length l1_4) (hc1_4 : l1_4.length ≤ c1_4) (hr1_6 : Kd.C k26 w A1_6 l1_6.length l1_6) (hc1_6 : l1_6.length ≤ c1_6) (h : cst_Right.f k l0_0 l0_1 l0_2 l0_3 l0_4 a1_0 a1_1 a1_2 a1_3 l1_4 a1_5 l1_6 = some r) :
  Calls Tryd.prog 24 #[.agg #[.slice A0_0 l0_0.length c0_0, .slice A0_1 l0_1.length c0_1, .slice A0_2 l0_2.length c0_2, .slice A0_3 l0_3.length c0_3, .slice A0_4 l0_4.length c0_4], .agg #[.int .i64 a1_0, .int .i64 a1_1, .int .i64 a1_2, .int .i64 a1_3, .slice A1_4 l1_4.length c1_4, .string a1_5, .slice A1_6 l1_6.length c1_6]] w fun e w' => e = .returned (.bool r) ∧ Below w.heap.size w w' := by
 unfold cst_Right.f at h
 obtain ⟨x, hx⟩ : ∃ x : S26, x = ⟨a1_0, a1_1, a1_2, a1_3, l1_4, a1_5, l1_6⟩ := ⟨_, rfl⟩
 rw [← hx] at h
 obtain rfl : a1_0 = x.f0 := by rw [hx]
 obtain rfl : a1_1 = x.f1 := by rw [hx]
 obtain rfl : a1_2 = x.f2 := by rw [hx]
 obtain rfl : a1_3 = x.f3 := by rw [hx]
 obtain rfl : l1_4 = x.f4 := by rw [hx]
 obtain rfl : a1_5 = x.f5 := by rw [hx]
 obtain rfl : l1_6 = x.f6 := by rw [hx]
 clear hx
 have HOK := Aside0.mk (show NodeE.Ok w ⟨x, A1_4, c1_4, A1_6, c1_6⟩ from ⟨hc1_4, hr1_4, hc1_6, hr1_6⟩)
 have HG := Aside0.mk (InG.mk hr0_0 hc0_0 hr0_1 hc0_1 hr0_2 hc0_2 hr0_3 hc0_3 hr0_4 hc0_4)
 clear hr0_0 hc0_0 hr0_1 hc0_1 hr0_2 hc0_2 hr0_3 hc0_3 hr0_4 hc0_4 hr1_4 hc1_4 hr1_6 hc1_6
 have S0 := Aside0.mk (RS.start w A0_0 c0_0 l0_0 A0_1 c0_1 l0_1 A0_2 c0_2 l0_2 A0_3 c0_3 l0_3 A0_4 c0_4 l0_4 x A1_4 c1_4 A1_6 c1_6)
 obtain ⟨t, ht, h⟩ := Option.bind_eq_some_iff.1 h
 have HT := Aside0.mk ht
 clear ht
 have bad : ∀ {W : World} {tmps : Array Value}, RS w A0_0 c0_0 l0_0 A0_1 c0_1 l0_1 A0_2 c0_2 l0_2 A0_3 c0_3 l0_3 A0_4 c0_4 l0_4 x A1_4 c1_4 A1_6 c1_6 W → r = false → tmps[4]? = some (.pointer (some ⟨w.heap.size + 1 + 1, 0, none⟩)) → bodyPostM Fence.wide 0 Tryd.prog Tryd.f24 (fun e w' => e = .returned (.bool r) ∧ Below w.heap.size w w') .ret { tmps := tmps, defers := [] } (W.setCell ⟨w.heap.size + 1 + 1, 0, none⟩ (.bool false)) := fun S hr t4 =>
  right_ret0 (b := false) (by have := blk_put S.c 0 (.bool false) rfl; simpa using this) (S.B.setCell (by simp <;> omega) _) hr.symm t4
 have BAD := Aside0.mk @bad
 clear bad
 refine (callsIn_wide (n := 0)).1 ?_
 refine callsIn_of_wp_marks Tryd.func24 rfl trivial ?_ rfl
 simp only [Tryd.ntmps24, List.size_toArray, List.length_cons, List.length_nil, Nat.reduceAdd, Nat.reduceSub, Array.replicate_succ, Array.replicate_zero, List.push_toArray, List.append_toArray, List.nil_append, List.cons_append]
 refine wpIn_wide.2 ?_
 by_cases c1 : t = 0
 case neg =>
  rw [if_neg c1] at h
  obtain rfl := Option.some.inj h
  have c1b : (t == 0) = false := beq_eq_false_iff_ne.mpr c1
  have c1c : (t != 0) = true := bne_iff_ne.mpr c1
  clear c1 h
  go_wp2_with (go_at_call 38; refine (InG.right (HG.out.below S0.out.B) HT.out).mono ?_; rintro e w1 ⟨rfl, hb⟩; have S1 := Aside0.mk (S0.out.below hb); clear hb; obtain ⟨n0, n1, n2, n3, n4, n5, n6, z1, z2⟩ := S1.out.cells)
  exact BAD.out S1.out (by first | rfl | trivial) rfl
 subst c1
 rw [if_pos rfl] at h
 obtain ⟨z, hz, h⟩ := Option.bind_eq_some_iff.1 h
 have HZ := Aside0.mk hz
 clear hz
 unfold headGo at h
 by_cases d0 : 65536 < z
 case pos =>
  rw [if_pos d0] at h
  obtain rfl := Option.some.inj h
  have d0b0 : decide (65536 < z) = true := by first | (simpa using d0) | (simp; omega)
  clear d0 h
  go_wp2_with (first | (go_at_call 38; refine (InG.right (HG.out.below S0.out.B) HT.out).mono ?_; rintro e w1 ⟨rfl, hb⟩; have S1 := Aside0.mk (S0.out.below hb); clear hb; obtain ⟨n0, n1, n2, n3, n4, n5, n6, z1, z2⟩ := S1.out.cells) | (go_at_call 14; refine (NodeE.Ok.size (HOK.out.step (fun k q => S1.out.B.block k q)) HZ.out).mono ?_; rintro e w2 ⟨rfl, hb⟩; have S2 := Aside0.mk (S1.out.below hb); clear hb; clear n0 n1 n2 n3 n4 n5 n6 z1 z2; obtain ⟨n0, n1, n2, n3, n4, n5, n6, z1, z2⟩ := S2.out.cells))
  exact BAD.out S2.out (by first | rfl | trivial) rfl
 rw [if_neg d0] at h
 have d0b0 : decide (65536 < z) = false := by first | (simpa using d0) | (simp; omega)
 clear d0
 by_cases d1 : x.f0 ≠ -1
 case pos =>
  rw [if_pos d1] at h
  obtain rfl := Option.some.inj h
  have d1b0 : (x.f0 != (-1)) = true := by first | (simpa using d1) | (simp; omega)
  have d1b1 : (x.f0 == (-1)) = false := by first | (simpa using d1) | (simp; omega)
  clear d1 h
  go_wp2_with (first | (go_at_call 38; refine (InG.right (HG.out.below S0.out.B) HT.out).mono ?_; rintro e w1 ⟨rfl, hb⟩; have S1 := Aside0.mk (S0.out.below hb); clear hb; obtain ⟨n0, n1, n2, n3, n4, n5, n6, z1, z2⟩ := S1.out.cells) | (go_at_call 14; refine (NodeE.Ok.size (HOK.out.step (fun k q => S1.out.B.block k q)) HZ.out).mono ?_; rintro e w2 ⟨rfl, hb⟩; have S2 := Aside0.mk (S1.out.below hb); clear hb; clear n0 n1 n2 n3 n4 n5 n6 z1 z2; obtain ⟨n0, n1, n2, n3, n4, n5, n6, z1, z2⟩ := S2.out.cells))
  exact BAD.out S2.out (by first | rfl | trivial) rfl
 rw [if_neg d1] at h
 have d1b0 : (x.f0 != (-1)) = false := by first | (simpa using d1) | (simp; omega)
 have d1b1 : (x.f0 == (-1)) = true := by first | (simpa using d1) | (simp; omega)
 clear d1
 by_cases d2 : x.f1 ≠ 0
 case pos =>
  rw [if_pos d2] at h
  obtain rfl := Option.some.inj h
  have d2b0 : (x.f1 != 0) = true := by first | (simpa using d2) | (simp; omega)
  have d2b1 : (x.f1 == 0) = false := by first | (simpa using d2) | (simp; omega)
  clear d2 h
  go_wp2_with (first | (go_at_call 38; refine (InG.right (HG.out.below S0.out.B) HT.out).mono ?_; rintro e w1 ⟨rfl, hb⟩; have S1 := Aside0.mk (S0.out.below hb); clear hb; obtain ⟨n0, n1, n2, n3, n4, n5, n6, z1, z2⟩ := S1.out.cells) | (go_at_call 14; refine (NodeE.Ok.size (HOK.out.step (fun k q => S1.out.B.block k q)) HZ.out).mono ?_; rintro e w2 ⟨rfl, hb⟩; have S2 := Aside0.mk (S1.out.below hb); clear hb; clear n0 n1 n2 n3 n4 n5 n6 z1 z2; obtain ⟨n0, n1, n2, n3, n4, n5, n6, z1, z2⟩ := S2.out.cells))
  exact BAD.out S2.out (by first | rfl | trivial) rfl
 rw [if_neg d2] at h
 have d2b0 : (x.f1 != 0) = false := by first | (simpa using d2) | (simp; omega)
 have d2b1 : (x.f1 == 0) = true := by first | (simpa using d2) | (simp; omega)
 clear d2
 by_cases d3 : x.f3 ≠ 0
 case pos =>
  rw [if_pos d3] at h
  obtain rfl := Option.some.inj h
  have d3b0 : (x.f3 != 0) = true := by first | (simpa using d3) | (simp; omega)
  have d3b1 : (x.f3 == 0) = false := by first | (simpa using d3) | (simp; omega)
  clear d3 h
  go_wp2_with (first | (go_at_call 38; refine (InG.right (HG.out.below S0.out.B) HT.out).mono ?_; rintro e w1 ⟨rfl, hb⟩; have S1 := Aside0.mk (S0.out.below hb); clear hb; obtain ⟨n0, n1, n2, n3, n4, n5, n6, z1, z2⟩ := S1.out.cells) | (go_at_call 14; refine (NodeE.Ok.size (HOK.out.step (fun k q => S1.out.B.block k q)) HZ.out).mono ?_; rintro e w2 ⟨rfl, hb⟩; have S2 := Aside0.mk (S1.out.below hb); clear hb; clear n0 n1 n2 n3 n4 n5 n6 z1 z2; obtain ⟨n0, n1, n2, n3, n4, n5, n6, z1, z2⟩ := S2.out.cells))
  exact BAD.out S2.out (by first | rfl | trivial) rfl
 rw [if_neg d3] at h
 have d3b0 : (x.f3 != 0) = false := by first | (simpa using d3) | (simp; omega)
 have d3b1 : (x.f3 == 0) = true := by first | (simpa using d3) | (simp; omega)
 clear d3
 by_cases d4 : x.f2 < 0
 case pos =>
  rw [if_pos d4] at h
  obtain rfl := Option.some.inj h
  have d4b0 : decide (x.f2 < 0) = true := by first | (simpa using d4) | (simp; omega)
  clear d4 h
  go_wp2_with (first | (go_at_call 38; refine (InG.right (HG.out.below S0.out.B) HT.out).mono ?_; rintro e w1 ⟨rfl, hb⟩; have S1 := Aside0.mk (S0.out.below hb); clear hb; obtain ⟨n0, n1, n2, n3, n4, n5, n6, z1, z2⟩ := S1.out.cells) | (go_at_call 14; refine (NodeE.Ok.size (HOK.out.step (fun k q => S1.out.B.block k q)) HZ.out).mono ?_; rintro e w2 ⟨rfl, hb⟩; have S2 := Aside0.mk (S1.out.below hb); clear hb; clear n0 n1 n2 n3 n4 n5 n6 z1 z2; obtain ⟨n0, n1, n2, n3, n4, n5, n6, z1, z2⟩ := S2.out.cells))
  exact BAD.out S2.out (by first | rfl | trivial) rfl
 rw [if_neg d4] at h
 have d4b0 : decide (x.f2 < 0) = false := by first | (simpa using d4) | (simp; omega)
 clear d4
 by_cases d5 : 0 < x.f4.length
 case pos =>
  rw [if_pos d5] at h
  obtain rfl := Option.some.inj h
  have d5b0 : decide (0 < (x.f4.length : Int)) = true := by first | (simpa using d5) | (simp; omega)
  have d5b1 : decide (0 < x.f4.length) = true := by first | (simpa using d5) | (simp; omega)
  clear d5 h
  go_wp2_with (first | (go_at_call 38; refine (InG.right (HG.out.below S0.out.B) HT.out).mono ?_; rintro e w1 ⟨rfl, hb⟩; have S1 := Aside0.mk (S0.out.below hb); clear hb; obtain ⟨n0, n1, n2, n3, n4, n5, n6, z1, z2⟩ := S1.out.cells) | (go_at_call 14; refine (NodeE.Ok.size (HOK.out.step (fun k q => S1.out.B.block k q)) HZ.out).mono ?_; rintro e w2 ⟨rfl, hb⟩; have S2 := Aside0.mk (S1.out.below hb); clear hb; clear n0 n1 n2 n3 n4 n5 n6 z1 z2; obtain ⟨n0, n1, n2, n3, n4, n5, n6, z1, z2⟩ := S2.out.cells))
  exact BAD.out S2.out (by first | rfl | trivial) rfl
 rw [if_neg d5] at h
 have d5b0 : decide (0 < (x.f4.length : Int)) = false := by first | (simpa using d5) | (simp; omega)
 have d5b1 : decide (0 < x.f4.length) = false := by first | (simpa using d5) | (simp; omega)
 clear d5
 by_cases d6 : x.f5.toList ≠ []
 case pos =>
  rw [if_pos d6] at h
  obtain rfl := Option.some.inj h
  have d6b0 : (x.f5.toList != ([] : List UInt8)) = true := by first | (simpa using d6) | (simp; omega)
  have d6b1 : (x.f5.toList == ([] : List UInt8)) = false := by first | (simpa using d6) | (simp; omega)
  clear d6 h
  go_wp2_with (first | (go_at_call 38; refine (InG.right (HG.out.below S0.out.B) HT.out).mono ?_; rintro e w1 ⟨rfl, hb⟩; have S1 := Aside0.mk (S0.out.below hb); clear hb; obtain ⟨n0, n1, n2, n3, n4, n5, n6, z1, z2⟩ := S1.out.cells) | (go_at_call 14; refine (NodeE.Ok.size (HOK.out.step (fun k q => S1.out.B.block k q)) HZ.out).mono ?_; rintro e w2 ⟨rfl, hb⟩; have S2 := Aside0.mk (S1.out.below hb); clear hb; clear n0 n1 n2 n3 n4 n5 n6 z1 z2; obtain ⟨n0, n1, n2, n3, n4, n5, n6, z1, z2⟩ := S2.out.cells))
  exact BAD.out S2.out (by first | rfl | trivial) rfl
 rw [if_neg d6] at h
 have d6b0 : (x.f5.toList != ([] : List UInt8)) = false := by first | (simpa using d6) | (simp; omega)
 have d6b1 : (x.f5.toList == ([] : List UInt8)) = true := by first | (simpa using d6) | (simp; omega)
 clear d6
 have HH := Aside0.mk h
 clear h
 go_wp2_with (first | (go_at_call 38; refine (InG.right (HG.out.below S0.out.B) HT.out).mono ?_; rintro e w1 ⟨rfl, hb⟩; have S1 := Aside0.mk (S0.out.below hb); clear hb; obtain ⟨n0, n1, n2, n3, n4, n5, n6, z1, z2⟩ := S1.out.cells) | (go_at_call 14; refine (NodeE.Ok.size (HOK.out.step (fun k q => S1.out.B.block k q)) HZ.out).mono ?_; rintro e w2 ⟨rfl, hb⟩; have S2 := Aside0.mk (S1.out.below hb); clear hb; clear n0 n1 n2 n3 n4 n5 n6 z1 z2; obtain ⟨n0, n1, n2, n3, n4, n5, n6, z1, z2⟩ := S2.out.cells))
 by_cases hl : x.f6.length = 2
 case neg =>
  have hr : r = false := by
   have h := HH.out
   generalize x.f6 = l at h hl
   match l, h, hl with
   | [], h, _ => exact (Option.some.inj h).symm
   | [_], h, _ => exact (Option.some.inj h).symm
   | [_, _], _, hl => exact absurd rfl hl
   | _ :: _ :: _ :: _, h, _ => exact (Option.some.inj h).symm
  subst hr
  have l1 : ((x.f6.length : Int) != 2) = true := by rw [bne_iff_ne]; omega
  have l2 : ((x.f6.length : Int) == 2) = false := by rw [beq_eq_false_iff_ne]; omega
  clear hl
  go_quiet (fail)
  go_wp2
  exact BAD.out (S2.out.below (by repeat (first | exact Below.refl _ _ | apply below_alloc | apply pw_below_drewN | apply below_drew1))) (by first | rfl | trivial) rfl
 obtain ⟨k0, k1, hk⟩ : ∃ k0 k1, x.f6 = [k0, k1] := by
  generalize x.f6 = l at hl
  match l, hl with
  | [a, b], _ => exact ⟨a, b, rfl⟩
 obtain ⟨ad, d0, ea, hd0, O0, q0⟩ := kid_at HOK.out 0 (by show 0 < x.f6.length; omega)
 obtain ⟨ad', d1, eb, hd1, O1, q1⟩ := kid_at HOK.out 1 (by show 1 < x.f6.length; omega)
 have ea' : A1_6 = some ad := ea
 have eb' : A1_6 = some ad' := eb
 obtain rfl : ad = ad' := by rw [ea'] at eb'; exact Option.some.inj eb'
 clear ea eb eb'
 subst ea'
 obtain ⟨x0, B4, d4, B6, d6⟩ := d0
 obtain ⟨x1, C4, e4, C6, e6⟩ := d1
 dsimp only at hd0 hd1
 have hh := HH.out
 clear HH
 rw [hk] at hh
 obtain rfl : k0 = x0 := by rw [hd0]; simp [hk]
 obtain rfl : k1 = x1 := by rw [hd1]; simp [hk]
 clear hd0 hd1
 rw [hl] at n6
 unfold kidsGo at hh
 dsimp only at hh
 by_cases hp : 0 < l0_3.length ∧ 0 < (rd_T58 l0_3 0).f1.length
 case neg => rw [if_neg hp] at hh; cases hh
 rw [if_pos hp] at hh
 obtain ⟨hp1, hp2⟩ := hp
 obtain ⟨ar, R1, s1, R2, s2, er, _, hr1, _, _, _, hlr, hir, _, _⟩ := at_T58 HG.out.r3 0 (by omega) (by omega)
 obtain rfl : A0_3 = some ar := er
 obtain ⟨af, ef, hf⟩ := Kd.at_int hir 0 (by omega) (by omega)
 obtain rfl : R1 = some af := ef
 have f1 : w2.cell? ⟨ar.block, ar.off + 1, none⟩ = some (.slice (some af) (rd_T58 l0_3 0).f1.length s1) := by
  rw [show ((0 : Int)).toNat * 5 = 0 from rfl, Addr.add_zero'] at hr1
  exact kc S2.out.B hr1
 have f2 : w2.cell? af = some (.int .i64 (rd (rd_T58 l0_3 0).f1 0)) := by
  first | (rw [show ((0 : Int)).toNat = 0 from rfl, Addr.add_zero'] at hf; exact kc S2.out.B hf) | exact kc S2.out.B hf
 clear hr1 hf hlr hir hl
 have p0 : w2.cell? ad = some (.int .i64 k0.f0) := by have h_ := q0 0 _ rfl; rw [show 0 * 7 + 0 = 0 from rfl, Addr.add_zero'] at h_; exact kc S2.out.B h_
 have p1 : w2.cell? ⟨ad.block, ad.off + 1, none⟩ = some (.int .i64 k0.f1) := by have h_ := q0 1 _ rfl; rw [add_field _ _ 1 (by omega), show 0 * 7 = 0 from rfl, Addr.add_zero'] at h_; exact kc S2.out.B h_
 have p2 : w2.cell? ⟨ad.block, ad.off + 2, none⟩ = some (.int .i64 k0.f2) := by have h_ := q0 2 _ rfl; rw [add_field _ _ 2 (by omega), show 0 * 7 = 0 from rfl, Addr.add_zero'] at h_; exact kc S2.out.B h_
 have p3 : w2.cell? ⟨ad.block, ad.off + 3, none⟩ = some (.int .i64 k0.f3) := by have h_ := q0 3 _ rfl; rw [add_field _ _ 3 (by omega), show 0 * 7 = 0 from rfl, Addr.add_zero'] at h_; exact kc S2.out.B h_
 have p4 : w2.cell? ⟨ad.block, ad.off + 4, none⟩ = some (.slice B4 k0.f4.length d4) := by have h_ := q0 4 _ rfl; rw [add_field _ _ 4 (by omega), show 0 * 7 = 0 from rfl, Addr.add_zero'] at h_; exact kc S2.out.B h_
 have p5 : w2.cell? ⟨ad.block, ad.off + 5, none⟩ = some (.string k0.f5) := by have h_ := q0 5 _ rfl; rw [add_field _ _ 5 (by omega), show 0 * 7 = 0 from rfl, Addr.add_zero'] at h_; exact kc S2.out.B h_
 have p6 : w2.cell? ⟨ad.block, ad.off + 6, none⟩ = some (.slice B6 k0.f6.length d6) := by have h_ := q0 6 _ rfl; rw [add_field _ _ 6 (by omega), show 0 * 7 = 0 from rfl, Addr.add_zero'] at h_; exact kc S2.out.B h_
 have r0 : w2.cell? ⟨ad.block, ad.off + 7, none⟩ = some (.int .i64 k1.f0) := by have h_ := q1 0 _ rfl; rw [show 1 * 7 + 0 = 0 + 7 from rfl, add_field _ _ 7 (by omega), Addr.add_zero'] at h_; exact kc S2.out.B h_
 have r1 : w2.cell? ⟨ad.block, ad.off + 7 + 1, none⟩ = some (.int .i64 k1.f1) := by have h_ := q1 1 _ rfl; rw [show 1 * 7 + 1 = 0 + 8 from rfl, add_field _ _ 8 (by omega), Addr.add_zero'] at h_; exact kc S2.out.B h_
 have r2 : w2.cell? ⟨ad.block, ad.off + 7 + 2, none⟩ = some (.int .i64 k1.f2) := by have h_ := q1 2 _ rfl; rw [show 1 * 7 + 2 = 0 + 9 from rfl, add_field _ _ 9 (by omega), Addr.add_zero'] at h_; exact kc S2.out.B h_
 have r3 : w2.cell? ⟨ad.block, ad.off + 7 + 3, none⟩ = some (.int .i64 k1.f3) := by have h_ := q1 3 _ rfl; rw [show 1 * 7 + 3 = 0 + 10 from rfl, add_field _ _ 10 (by omega), Addr.add_zero'] at h_; exact kc S2.out.B h_
 have r4 : w2.cell? ⟨ad.block, ad.off + 7 + 4, none⟩ = some (.slice C4 k1.f4.length e4) := by have h_ := q1 4 _ rfl; rw [show 1 * 7 + 4 = 0 + 11 from rfl, add_field _ _ 11 (by omega), Addr.add_zero'] at h_; exact kc S2.out.B h_
 have r5 : w2.cell? ⟨ad.block, ad.off + 7 + 5, none⟩ = some (.string k1.f5) := by have h_ := q1 5 _ rfl; rw [show 1 * 7 + 5 = 0 + 12 from rfl, add_field _ _ 12 (by omega), Addr.add_zero'] at h_; exact kc S2.out.B h_
 have r6 : w2.cell? ⟨ad.block, ad.off + 7 + 6, none⟩ = some (.slice C6 k1.f6.length e6) := by have h_ := q1 6 _ rfl; rw [show 1 * 7 + 6 = 0 + 13 from rfl, add_field _ _ 13 (by omega), Addr.add_zero'] at h_; exact kc S2.out.B h_
 have g0 : w2.cell? ⟨w.heap.size, 0, none⟩ = some (.slice A0_0 l0_0.length c0_0) := (blk_cell S2.out.g 0).trans rfl
 have g1 : w2.cell? ⟨w.heap.size, 1, none⟩ = some (.slice A0_1 l0_1.length c0_1) := (blk_cell S2.out.g 1).trans rfl
 have g2 : w2.cell? ⟨w.heap.size, 2, none⟩ = some (.slice A0_2 l0_2.length c0_2) := (blk_cell S2.out.g 2).trans rfl
 have g3 : w2.cell? ⟨w.heap.size, 3, none⟩ = some (.slice (some ar) l0_3.length c0_3) := (blk_cell S2.out.g 3).trans rfl
 have g4 : w2.cell? ⟨w.heap.size, 4, none⟩ = some (.slice A0_4 l0_4.length c0_4) := (blk_cell S2.out.g 4).trans rfl
 have HO0 := Aside0.mk O0
 have HO1 := Aside0.mk O1
 have HKE := Aside0.mk hk
 clear q0 q1 O0 O1 hk
 have i1 : (0 : Int) < (l0_3.length : Int) := by omega
 have i2 : (0 : Int) < ((rd_T58 l0_3 0).f1.length : Int) := by omega
 obtain ⟨s, hs⟩ : ∃ s, rd (rd_T58 l0_3 0).f1 0 = s := ⟨_, rfl⟩
 obtain ⟨ln, hln⟩ : ∃ ln, (rd_T58 l0_3 0).f1.length = ln := ⟨_, rfl⟩
 rw [hs] at f2 hh
 rw [hln] at f1 i2 hp2
 clear hs hln
 by_cases c3 : k0.f0 = s
 case neg =>
  rw [if_neg c3] at hh
  obtain rfl := Option.some.inj hh
  have c3b : (k0.f0 != s) = true := bne_iff_ne.mpr c3
  have c3c : (k0.f0 == s) = false := beq_eq_false_iff_ne.mpr c3
  clear c3 hh
  go_quiet (fail)
  go_wp2
  exact BAD.out (S2.out.below (by repeat (first | exact Below.refl _ _ | apply below_alloc | apply pw_below_drewN | apply below_drew1))) (by first | rfl | trivial) rfl
 rw [if_pos c3] at hh
 have c3b : (k0.f0 != s) = false := bne_eq_false_iff_eq.mpr c3
 have c3c : (k0.f0 == s) = true := beq_iff_eq.mpr c3
 clear c3
 by_cases c4 : k1.f0 = 0
 case neg =>
  rw [if_neg c4] at hh
  obtain rfl := Option.some.inj hh
  have c4b : (k1.f0 != 0) = true := bne_iff_ne.mpr c4
  have c4c : (k1.f0 == 0) = false := beq_eq_false_iff_ne.mpr c4
  clear c4 hh
  go_quiet (fail)
  go_wp2
  exact BAD.out (S2.out.below (by repeat (first | exact Below.refl _ _ | apply below_alloc | apply pw_below_drewN | apply below_drew1))) (by first | rfl | trivial) rfl
 rw [if_pos c4] at hh
 have c4b : (k1.f0 != 0) = false := bne_eq_false_iff_eq.mpr c4
 have c4c : (k1.f0 == 0) = true := beq_iff_eq.mpr c4
 clear c4
 unfold lastGo at hh
 obtain ⟨b, hb0, hh⟩ := Option.bind_eq_some_iff.1 hh
 have HLF := Aside0.mk hb0
 clear hb0
 cases b
 case false =>
  obtain rfl : false = r := by simpa using hh
  clear hh
  refine wp_region_noPanic ?_
  refine wp_region_held_drew (S := fun w' => w'.cell? ⟨w.heap.size + 1, 6, none⟩ = some (.slice (some ad) 2 c1_6) ∧ w'.cell? ad = some (.int .i64 k0.f0) ∧ w'.cell? ⟨ar.block, ar.off + 1, none⟩ = some (.slice (some af) ln s1) ∧ w'.cell? af = some (.int .i64 s) ∧ w'.cell? ⟨w.heap.size, 0, none⟩ = some (.slice A0_0 l0_0.length c0_0) ∧ w'.cell? ⟨w.heap.size, 1, none⟩ = some (.slice A0_1 l0_1.length c0_1) ∧ w'.cell? ⟨w.heap.size, 2, none⟩ = some (.slice A0_2 l0_2.length c0_2) ∧ w'.cell? ⟨w.heap.size, 3, none⟩ = some (.slice (some ar) l0_3.length c0_3) ∧ w'.cell? ⟨w.heap.size, 4, none⟩ = some (.slice A0_4 l0_4.length c0_4) ∧ w'.cell? ⟨ad.block, ad.off + 7, none⟩ = some (.int .i64 k1.f0) ∧ w'.cell? ⟨ad.block, ad.off + 7 + 1, none⟩ = some (.int .i64 k1.f1) ∧ w'.cell? ⟨ad.block, ad.off + 7 + 2, none⟩ = some (.int .i64 k1.f2) ∧ w'.cell? ⟨ad.block, ad.off + 7 + 3, none⟩ = some (.int .i64 k1.f3) ∧ w'.cell? ⟨ad.block, ad.off + 7 + 4, none⟩ = some (.slice C4 k1.f4.length e4) ∧ w'.cell? ⟨ad.block, ad.off + 7 + 5, none⟩ = some (.string k1.f5) ∧ w'.cell? ⟨ad.block, ad.off + 7 + 6, none⟩ = some (.slice C6 k1.f6.length e6)) (by kernel_rfl) ?hS (fun hHeld => ?_)
  case hS => ((try dsimp only); first | go_keep | (simp [*]; done))
  refine OrdH.enter [(0, 45), (1, 46), (2, 47), (3, 48), (4, 49), (5, 50), (6, 51), (7, 52), (8, 53), (9, 54), (10, 55), (11, 56), (12, 57), (13, 58), (14, 59), (15, 60), (16, 61), (17, 62), (18, 63), (19, 64), (20, 65), (21, 66), (22, 67), (23, 68), (24, 69), (25, 70), (26, 71), (27, 72), (28, 73), (29, 74), (30, 75), (31, 76), (32, 77)] ?_
  repeat (refine OrdH.step (v := ?_) (a' := ?_) rfl rfl (fun _ _ _ h => h) hHeld (by rfl) ?hy ?ha ?_; (case hy => (intro w' hSw; (try dsimp only at hSw); first | (go_simp; done) | (go_simp; with_reducible rfl))); (case ha => (simp only [Act.put, List.setIfInBounds_toArray, List.set_cons_zero, List.set_cons_succ]; rfl)))
  refine OrdH.mk ?_
  refine wpAnyH_ready (rs := [33]) (by kernel_rfl) (by simp) ?_
  refine AllReadyH.cons (o := { dst := some 78, op := Op.call { callee := Callee.value (Operand.func 39), args := #[Operand.tmp 73, Operand.tmp 77], argTypes := #[40, 26] }, type := 4, pos := "cst.go:166", after := #[{ on := 28, ground := Ground.data }, { on := 32, ground := Ground.data }, { on := 27, ground := Ground.chain }, { on := 27, ground := Ground.guard }], guard := some (27, false) }) rfl (fun K hK => ?_) AllReadyH.nil
  go_simp
  go_at_call 39
  refine (InG.leaf (HG.out.below (by repeat (first | exact S2.out.B | apply below_alloc | apply pw_below_drewN | apply below_drew1))) (HO1.out.step (fun k q => (show Below w.heap.size w _ from (by repeat (first | exact S2.out.B | apply below_alloc | apply pw_below_drewN | apply below_drew1))).block k q)) HLF.out).mono ?_
  rintro e w3 ⟨rfl, hb⟩
  refine hK.out _ _ ?hS2 (fun hHeld2 => ?_)
  case hS2 => ((try dsimp only at hHeld); (try dsimp only); go_split_ands; exact ⟨kc hb (by assumption), kc hb (by assumption), kc hb (by assumption), kc hb (by assumption), kc hb (by assumption), kc hb (by assumption), kc hb (by assumption), kc hb (by assumption), kc hb (by assumption), kc hb (by assumption), kc hb (by assumption), kc hb (by assumption), kc hb (by assumption), kc hb (by assumption), kc hb (by assumption), kc hb (by assumption)⟩)
  clear hK K hHeld
  have hHeld := hHeld2
  clear hHeld2
  (try simp only [Act.put, List.setIfInBounds_toArray, List.set_cons_zero, List.set_cons_succ])
  refine OrdH.enter [(34, 79), (35, 80), (36, 81)] ?_
  repeat (refine OrdH.step (v := ?_) (a' := ?_) rfl rfl (fun _ _ _ h => h) hHeld (by rfl) ?hy ?ha ?_; (case hy => (intro w' hSw; (try dsimp only at hSw); first | (go_simp; done) | (go_simp; with_reducible rfl))); (case ha => (simp only [Act.put, List.setIfInBounds_toArray, List.set_cons_zero, List.set_cons_succ]; rfl)))
  refine OrdH.mk ?_
  refine OrdH.enter [(37, 82), (38, 83), (39, 84), (40, 85), (41, 86), (42, 87)] ?_
  repeat (refine OrdH.skip (a' := ?_) rfl rfl (fun _ _ _ h => h) hHeld (by rfl) ?ha ?_; (case ha => (simp only [Act.put, List.setIfInBounds_toArray, List.set_cons_zero, List.set_cons_succ]; rfl)))
  refine OrdH.mk ?_
  refine OrdH.enter [(43, 88)] ?_
  repeat (refine OrdH.step (v := ?_) (a' := ?_) rfl rfl (fun _ _ _ h => h) hHeld (by rfl) ?hy ?ha ?_; (case hy => (intro w' hSw; (try dsimp only at hSw); first | (go_simp; done) | (go_simp; with_reducible rfl))); (case ha => (simp only [Act.put, List.setIfInBounds_toArray, List.set_cons_zero, List.set_cons_succ]; rfl)))
  refine OrdH.mk ?_
  refine wpAnyH_done (by kernel_rfl) (NoPanic.normal ?_) _
  have S3 := Aside0.mk ((S2.out.below (by repeat (first | exact Below.refl _ _ | apply below_alloc | apply pw_below_drewN | apply below_drew1))).below hb)
  have z3 : w3.cell? ⟨w.heap.size + 1 + 1, 0, none⟩ = some (.bool false) := (blk_cell S3.out.c 0).trans rfl
  have z4 := blk_frozen S3.out.c 0
  clear hb
  go_wp2
  exact BAD.out S3.out (by first | rfl | trivial) rfl
 replace hh : (if k1.f2 < 0 then some false else allGo k l0_0 l0_1 l0_2 l0_3 l0_4 (preN k0)) = some r := by simpa using hh
 by_cases c5 : k1.f2 < 0
 case pos =>
  rw [if_pos c5] at hh
  obtain rfl := Option.some.inj hh
  have c5b : decide (k1.f2 < 0) = true := decide_eq_true c5
  clear c5 hh
  first | (go_region_held3 (fun w' => w'.cell? ⟨w.heap.size + 1, 6, none⟩ = some (.slice (some ad) 2 c1_6) ∧ w'.cell? ad = some (.int .i64 k0.f0) ∧ w'.cell? ⟨ar.block, ar.off + 1, none⟩ = some (.slice (some af) ln s1) ∧ w'.cell? af = some (.int .i64 s) ∧ w'.cell? ⟨w.heap.size, 0, none⟩ = some (.slice A0_0 l0_0.length c0_0) ∧ w'.cell? ⟨w.heap.size, 1, none⟩ = some (.slice A0_1 l0_1.length c0_1) ∧ w'.cell? ⟨w.heap.size, 2, none⟩ = some (.slice A0_2 l0_2.length c0_2) ∧ w'.cell? ⟨w.heap.size, 3, none⟩ = some (.slice (some ar) l0_3.length c0_3) ∧ w'.cell? ⟨w.heap.size, 4, none⟩ = some (.slice A0_4 l0_4.length c0_4) ∧ w'.cell? ⟨ad.block, ad.off + 7, none⟩ = some (.int .i64 k1.f0) ∧ w'.cell? ⟨ad.block, ad.off + 7 + 1, none⟩ = some (.int .i64 k1.f1) ∧ w'.cell? ⟨ad.block, ad.off + 7 + 2, none⟩ = some (.int .i64 k1.f2) ∧ w'.cell? ⟨ad.block, ad.off + 7 + 3, none⟩ = some (.int .i64 k1.f3) ∧ w'.cell? ⟨ad.block, ad.off + 7 + 4, none⟩ = some (.slice C4 k1.f4.length e4) ∧ w'.cell? ⟨ad.block, ad.off + 7 + 5, none⟩ = some (.string k1.f5) ∧ w'.cell? ⟨ad.block, ad.off + 7 + 6, none⟩ = some (.slice C6 k1.f6.length e6))
   (first
    | go_keep
    | (refine ⟨kc hb ?_, kc hb ?_, kc hb ?_, kc hb ?_, kc hb ?_, kc hb ?_, kc hb ?_, kc hb ?_, kc hb ?_, kc hb ?_, kc hb ?_, kc hb ?_, kc hb ?_, kc hb ?_, kc hb ?_, kc hb ?_⟩ <;> assumption))
   ((go_at_call 39; refine (InG.leaf (HG.out.below (by repeat (first | exact S2.out.B | apply below_alloc | apply pw_below_drewN | apply below_drew1))) (HO1.out.step (fun k q => (show Below w.heap.size w _ from (by repeat (first | exact S2.out.B | apply below_alloc | apply pw_below_drewN | apply below_drew1))).block k q)) HLF.out).mono ?_; rintro e w3 ⟨rfl, hb⟩))) | fail
  have S3 := Aside0.mk ((S2.out.below (by repeat (first | exact Below.refl _ _ | apply below_alloc | apply pw_below_drewN | apply below_drew1))).below hb)
  have z3 : w3.cell? ⟨w.heap.size + 1 + 1, 0, none⟩ = some (.bool false) := (blk_cell S3.out.c 0).trans rfl
  have z4 := blk_frozen S3.out.c 0
  clear hb
  go_wp2
  exact BAD.out S3.out (by first | rfl | trivial) rfl
 rw [if_neg c5] at hh
 have c5b : decide (k1.f2 < 0) = false := decide_eq_false c5
 have HH := Aside0.mk hh
 clear c5 hh
 first | (go_region_held3 (fun w' => w'.cell? ⟨w.heap.size + 1, 6, none⟩ = some (.slice (some ad) 2 c1_6) ∧ w'.cell? ad = some (.int .i64 k0.f0) ∧ w'.cell? ⟨ar.block, ar.off + 1, none⟩ = some (.slice (some af) ln s1) ∧ w'.cell? af = some (.int .i64 s) ∧ w'.cell? ⟨w.heap.size, 0, none⟩ = some (.slice A0_0 l0_0.length c0_0) ∧ w'.cell? ⟨w.heap.size, 1, none⟩ = some (.slice A0_1 l0_1.length c0_1) ∧ w'.cell? ⟨w.heap.size, 2, none⟩ = some (.slice A0_2 l0_2.length c0_2) ∧ w'.cell? ⟨w.heap.size, 3, none⟩ = some (.slice (some ar) l0_3.length c0_3) ∧ w'.cell? ⟨w.heap.size, 4, none⟩ = some (.slice A0_4 l0_4.length c0_4) ∧ w'.cell? ⟨ad.block, ad.off + 7, none⟩ = some (.int .i64 k1.f0) ∧ w'.cell? ⟨ad.block, ad.off + 7 + 1, none⟩ = some (.int .i64 k1.f1) ∧ w'.cell? ⟨ad.block, ad.off + 7 + 2, none⟩ = some (.int .i64 k1.f2) ∧ w'.cell? ⟨ad.block, ad.off + 7 + 3, none⟩ = some (.int .i64 k1.f3) ∧ w'.cell? ⟨ad.block, ad.off + 7 + 4, none⟩ = some (.slice C4 k1.f4.length e4) ∧ w'.cell? ⟨ad.block, ad.off + 7 + 5, none⟩ = some (.string k1.f5) ∧ w'.cell? ⟨ad.block, ad.off + 7 + 6, none⟩ = some (.slice C6 k1.f6.length e6))
   (first
    | go_keep
    | (refine ⟨kc hb ?_, kc hb ?_, kc hb ?_, kc hb ?_, kc hb ?_, kc hb ?_, kc hb ?_, kc hb ?_, kc hb ?_, kc hb ?_, kc hb ?_, kc hb ?_, kc hb ?_, kc hb ?_, kc hb ?_, kc hb ?_⟩ <;> assumption))
   ((go_at_call 39; refine (InG.leaf (HG.out.below (by repeat (first | exact S2.out.B | apply below_alloc | apply pw_below_drewN | apply below_drew1))) (HO1.out.step (fun k q => (show Below w.heap.size w _ from (by repeat (first | exact S2.out.B | apply below_alloc | apply pw_below_drewN | apply below_drew1))).block k q)) HLF.out).mono ?_; rintro e w3 ⟨rfl, hb⟩))) | fail
 have S3 := Aside0.mk ((S2.out.below (by repeat (first | exact Below.refl _ _ | apply below_alloc | apply pw_below_drewN | apply below_drew1))).below hb)
 have BX := Aside0.mk (show Below w2.heap.size w2 w3 from (show Below w2.heap.size w2 w2.drew from (by repeat (first | exact Below.refl _ _ | apply below_alloc | apply pw_below_drewN | apply below_drew1))).trans hb)
 have y0 : w3.cell? ⟨w.heap.size + 1, 6, none⟩ = some (.slice (some ad) 2 c1_6) := kc BX.out n6
 have y1 : w3.cell? ad = some (.int .i64 k0.f0) := kc BX.out p0
 have y2 : w3.cell? ⟨ad.block, ad.off + 1, none⟩ = some (.int .i64 k0.f1) := kc BX.out p1
 have y3 : w3.cell? ⟨ad.block, ad.off + 2, none⟩ = some (.int .i64 k0.f2) := kc BX.out p2
 have y4 : w3.cell? ⟨ad.block, ad.off + 3, none⟩ = some (.int .i64 k0.f3) := kc BX.out p3
 have y5 : w3.cell? ⟨ad.block, ad.off + 4, none⟩ = some (.slice B4 k0.f4.length d4) := kc BX.out p4
 have y6 : w3.cell? ⟨ad.block, ad.off + 5, none⟩ = some (.string k0.f5) := kc BX.out p5
 have y7 : w3.cell? ⟨ad.block, ad.off + 6, none⟩ = some (.slice B6 k0.f6.length d6) := kc BX.out p6
 have y8 : w3.cell? ⟨w.heap.size, 0, none⟩ = some (.slice A0_0 l0_0.length c0_0) := kc BX.out g0
 have y9 : w3.cell? ⟨w.heap.size, 1, none⟩ = some (.slice A0_1 l0_1.length c0_1) := kc BX.out g1
 have y10 : w3.cell? ⟨w.heap.size, 2, none⟩ = some (.slice A0_2 l0_2.length c0_2) := kc BX.out g2
 have y11 : w3.cell? ⟨w.heap.size, 3, none⟩ = some (.slice (some ar) l0_3.length c0_3) := kc BX.out g3
 have y12 : w3.cell? ⟨w.heap.size, 4, none⟩ = some (.slice A0_4 l0_4.length c0_4) := kc BX.out g4
 have z3 : w3.cell? ⟨w.heap.size + 1 + 1, 0, none⟩ = some (.bool false) := (blk_cell S3.out.c 0).trans rfl
 have z4 := blk_frozen S3.out.c 0
 clear hb n0 n1 n2 n3 n4 n5 n6 z1 z2 f1 f2 p0 p1 p2 p3 p4 p5 p6 r0 r1 r2 r3 r4 r5 r6 g0 g1 g2 g3 g4
 go_wp2_with (go_at_call 31; refine (all_calls' _ _ _ _ _ _).mono ?_; rintro e w' ⟨rfl, rfl⟩)
 clear y0 y1 y2 y3 y4 y5 y6 y7 y8 y9 y10 y11 y12 z3 z4
 obtain ⟨L, hL1, hL2, hL3⟩ := visits_of w (fun k => k < w.heap.size ∨ k = w3.heap.size) (fun k q => .inl q) _ ⟨k0, B4, d4, B6, d6⟩ (Nat.lt_succ_self _) HO0.out
 have HL1 := Aside0.mk hL1
 have HL2 := Aside0.mk hL2
 have HL3 := Aside0.mk hL3
 clear hL1 hL2 hL3
 have hBa := below_alloc (Below.refl w3.heap.size w3) (.cells #[.int .i64 k0.f0, .int .i64 k0.f1, .int .i64 k0.f2, .int .i64 k0.f3, .slice B4 k0.f4.length d4, .string k0.f5, .slice B6 k0.f6.length d6] 26)
 have hb0 := blk_new w3 (.cells #[.int .i64 k0.f0, .int .i64 k0.f1, .int .i64 k0.f2, .int .i64 k0.f3, .slice B4 k0.f4.length d4, .string k0.f5, .slice B6 k0.f6.length d6] 26)
 have hz : (w3.alloc (.cells #[.int .i64 k0.f0, .int .i64 k0.f1, .int .i64 k0.f2, .int .i64 k0.f3, .slice B4 k0.f4.length d4, .string k0.f5, .slice B6 k0.f6.length d6] 26)).heap.size = w3.heap.size + 1 := by simp
 obtain ⟨W0, hW0⟩ : ∃ W0, w3.alloc (.cells #[.int .i64 k0.f0, .int .i64 k0.f1, .int .i64 k0.f2, .int .i64 k0.f3, .slice B4 k0.f4.length d4, .string k0.f5, .slice B6 k0.f6.length d6] 26) = W0 := ⟨_, rfl⟩
 rw [hW0] at hBa hb0 hz ⊢
 clear hW0
 have S4 := Aside0.mk (S3.out.below hBa)
 have hws : w.heap.size + 1 + 1 < w3.heap.size := (Array.getElem?_eq_some_iff.1 S3.out.c).1
 have hB := S4.out.B
 refine (wpIn_wide (n := 0)).1 ?_
 refine wp_range_T (gf := 49) (lb := #[.pointer (some ⟨w3.heap.size, 0, none⟩)]) ?hg (enters_of Tryd.func49 (by kernel_rfl) rfl) (all1_gives w W0 ⟨k0, B4, d4, B6, d6⟩ L _ (fun k q => hB.block k q) hB.size hb0 HL3.out) (Below.refl _ _) (fun _ => rfl)
  (RI w A0_0 c0_0 l0_0 A0_1 c0_1 l0_1 A0_2 c0_2 l0_2 (some ar) c0_3 l0_3 A0_4 c0_4 l0_4 k (w3.heap.size + 1)) (RX w r (w3.heap.size + 1)) (RM w A0_0 c0_0 l0_0 A0_1 c0_1 l0_1 A0_2 c0_2 l0_2 (some ar) c0_3 l0_3 A0_4 c0_4 l0_4 k (w3.heap.size + 1)) (RI.abides w A0_0 c0_0 l0_0 A0_1 c0_1 l0_1 A0_2 c0_2 l0_2 (some ar) c0_3 l0_3 A0_4 c0_4 l0_4 k _) (RX.abides w r _) ?hM ?h0 ?assign ?body ?done ?stop
 case hg => rfl
 case hM => exact fun pre y a₁ => RM.abides w A0_0 c0_0 l0_0 A0_1 c0_1 l0_1 A0_2 c0_2 l0_2 (some ar) c0_3 l0_3 A0_4 c0_4 l0_4 k _ _ pre y a₁
 case h0 => exact ⟨by simp, ⟨hB, fun k q => q.elim, by omega, by omega⟩, by omega, S4.out.g, S4.out.c⟩
 case assign =>
  intro l pre y post X W hL hI hX
  have HI := Aside0.mk hI
  have HX := Aside0.mk hX
  clear hL hI hX hb0 hB hBa
  obtain ⟨x2, E4, f4, E6, f6⟩ := y
  simp only [encNode, NodeE.v]
  gi_wp2
  have hI' := RI.abides w A0_0 c0_0 l0_0 A0_1 c0_1 l0_1 A0_2 c0_2 l0_2 (some ar) c0_3 l0_3 A0_4 c0_4 l0_4 k (w3.heap.size + 1) pre X W _ X HI.out (IStep.of_below (below_alloc (Below.refl _ _) (.cells #[.int .i64 x2.f0, .int .i64 x2.f1, .int .i64 x2.f2, .int .i64 x2.f3, .slice E4 x2.f4.length f4, .string x2.f5, .slice E6 x2.f6.length f6] 26)))
  exact ⟨.of_below (below_alloc (Below.refl _ _) _), hI', W.heap.size, blk_new W _, fun q => by have := (HX.out _ q).2; omega, HI.out.2.own.size, rfl⟩
 case body =>
  rintro l pre y post a₁ X W hL ⟨hI, bx, hbx, hnx, hge, rfl⟩ hX
  have hok := (HL2.out y (by rw [hL]; simp)).step (fun k q => hI.2.own.below.block k q)
  have hall : allGo k l0_0 l0_1 l0_2 l0_3 l0_4 (pre.map (·.x) ++ y.x :: post.map (·.x)) = some r := by
   have h1 := HH.out
   rw [← HL1.out, hL] at h1
   simpa using h1
  obtain ⟨b, hb1, hb2⟩ := allGo_at k _ _ _ _ _ y.x (post.map (·.x)) (pre.map (·.x)) (fun e he => by obtain ⟨d, hd, rfl⟩ := List.mem_map.1 he; exact hI.1 d hd) hall
  obtain ⟨x2, E4, f4, E6, f6⟩ := y
  have HI := Aside0.mk hI
  have HBX := Aside0.mk hbx
  have HO := Aside0.mk hok
  have HB2 := Aside0.mk hb2
  dsimp only at hb1
  simp only [NodeE.a] at hbx
  have b0 : W.cell? ⟨bx, 0, none⟩ = some (.int .i64 x2.f0) := (blk_cell hbx 0).trans rfl
  have b1 : W.cell? ⟨bx, 1, none⟩ = some (.int .i64 x2.f1) := (blk_cell hbx 1).trans rfl
  have b2 : W.cell? ⟨bx, 2, none⟩ = some (.int .i64 x2.f2) := (blk_cell hbx 2).trans rfl
  have b3 : W.cell? ⟨bx, 3, none⟩ = some (.int .i64 x2.f3) := (blk_cell hbx 3).trans rfl
  have b4 : W.cell? ⟨bx, 4, none⟩ = some (.slice E4 x2.f4.length f4) := (blk_cell hbx 4).trans rfl
  have b5 : W.cell? ⟨bx, 5, none⟩ = some (.string x2.f5) := (blk_cell hbx 5).trans rfl
  have b6 : W.cell? ⟨bx, 6, none⟩ = some (.slice E6 x2.f6.length f6) := (blk_cell hbx 6).trans rfl
  have g0 : W.cell? ⟨w.heap.size, 0, none⟩ = some (.slice A0_0 l0_0.length c0_0) := (blk_cell hI.2.g 0).trans rfl
  have g1 : W.cell? ⟨w.heap.size, 1, none⟩ = some (.slice A0_1 l0_1.length c0_1) := (blk_cell hI.2.g 1).trans rfl
  have g2 : W.cell? ⟨w.heap.size, 2, none⟩ = some (.slice A0_2 l0_2.length c0_2) := (blk_cell hI.2.g 2).trans rfl
  have g3 : W.cell? ⟨w.heap.size, 3, none⟩ = some (.slice (some ar) l0_3.length c0_3) := (blk_cell hI.2.g 3).trans rfl
  have g4 : W.cell? ⟨w.heap.size, 4, none⟩ = some (.slice A0_4 l0_4.length c0_4) := (blk_cell hI.2.g 4).trans rfl
  have z1 : W.cell? ⟨w.heap.size + 1 + 1, 0, none⟩ = some (.bool false) := (blk_cell hI.2.c 0).trans rfl
  have z2 := blk_frozen hI.2.c 0
  have nok : ∀ {W' : World}, Below W.heap.size W W' → b = true → Keeps (fun k => X k ∨ (k < w.heap.size ∨ k = w3.heap.size)) W W' ∧ RI w A0_0 c0_0 l0_0 A0_1 c0_1 l0_1 A0_2 c0_2 l0_2 (some ar) c0_3 l0_3 A0_4 c0_4 l0_4 k (w3.heap.size + 1) (pre ++ [⟨x2, E4, f4, E6, f6⟩]) X W' := fun {W'} hb e => by
   refine ⟨Keeps.of_below hb, fun d hd => ?_, HI.out.2.step (IStep.of_below hb)⟩
   rcases List.mem_append.1 hd with q | q
   ·exact HI.out.1 d q
   ·obtain rfl := List.mem_singleton.1 q
    rw [← e]; exact hb1
  have nbad : ∀ {W' : World}, Below W.heap.size W W' → b = false → Keeps (fun k => X k ∨ (k < w.heap.size ∨ k = w3.heap.size)) W (W'.setCell ⟨w.heap.size + 1 + 1, 0, none⟩ (.bool false)) ∧ RX w r (w3.heap.size + 1) .ret (pre ++ [⟨x2, E4, f4, E6, f6⟩]) X (W'.setCell ⟨w.heap.size + 1 + 1, 0, none⟩ (.bool false)) := fun {W'} hb e => by
   have hs := HI.out.2.step (IStep.of_below hb)
   refine ⟨(Keeps.of_below hb).trans (Keeps.set _ _ _ (fun q => ?_)), rfl, HB2.out e, hs.own.set _ _ (by simp <;> omega), hs.far, ?_⟩
   ·rcases q with q | q
    ·have := HI.out.2.own.far _ q; simp at this <;> omega
    ·simp at q; omega
   ·have := blk_put hs.c 0 (.bool false) rfl
    simpa using this
  have NOK := Aside0.mk @nok
  have NBAD := Aside0.mk @nbad
  have HB1 := Aside0.mk hb1
  clear hI hL hok hall hb0 hbx hX hb1 hb2 hB hBa nok nbad
  simp only [NodeE.v]
  (try simp only [List.setIfInBounds_toArray, List.set_cons_zero, List.set_cons_succ])
  have hh := HB1.out
  unfold okGo at hh
  by_cases e1 : x2.f2 < 0
  case pos =>
   rw [if_pos e1] at hh
   obtain rfl := Option.some.inj hh
   have e1b : decide (x2.f2 < 0) = true := decide_eq_true e1
   clear e1 hh
   gi_wp2_with (first | (exfalso; have h_ := (by assumption : some undef = some (Value.bool _)); simp [undef] at h_; done) | (refine ⟨trivial, ?_⟩))
   exact NBAD.out (Below.refl _ _) (by first | rfl | trivial)
  rw [if_neg e1] at hh
  have e1b : decide (x2.f2 < 0) = false := decide_eq_false e1
  clear e1
  by_cases e2 : x2.f0 = 0
  case pos =>
   rw [if_pos e2] at hh
   obtain rfl := Option.some.inj hh
   have e2b : (x2.f0 == 0) = true := beq_iff_eq.mpr e2
   have e2c : (x2.f0 != 0) = false := bne_eq_false_iff_eq.mpr e2
   clear e2 hh
   gi_wp2_with (first | (exfalso; have h_ := (by assumption : some undef = some (Value.bool _)); simp [undef] at h_; done) | (refine ⟨trivial, ?_⟩))
   exact NBAD.out (Below.refl _ _) (by first | rfl | trivial)
  rw [if_neg e2] at hh
  have e2b : (x2.f0 == 0) = false := beq_eq_false_iff_ne.mpr e2
  have e2c : (x2.f0 != 0) = true := bne_iff_ne.mpr e2
  by_cases e3 : x2.f0 = -1
  case pos =>
   rw [if_pos e3] at hh
   obtain rfl := Option.some.inj hh
   have e3b : (x2.f0 == (-1)) = true := beq_iff_eq.mpr e3
   have e3c : (x2.f0 != (-1)) = false := bne_eq_false_iff_eq.mpr e3
   clear e2 e3 hh
   gi_wp2_with (first | (exfalso; have h_ := (by assumption : some undef = some (Value.bool _)); simp [undef] at h_; done) | (refine ⟨trivial, ?_⟩))
   exact NBAD.out (Below.refl _ _) (by first | rfl | trivial)
  rw [if_neg e3] at hh
  have e3b : (x2.f0 == (-1)) = false := beq_eq_false_iff_ne.mpr e3
  have e3c : (x2.f0 != (-1)) = true := bne_iff_ne.mpr e3
  clear e3
  by_cases e4 : 0 < x2.f0
  case pos =>
   rw [if_pos e4] at hh
   have e4b : decide (0 < x2.f0) = true := decide_eq_true e4
   have e5b : decide (x2.f0 < 0) = false := decide_eq_false (by omega)
   have HLE := Aside0.mk hh
   clear e2 e4 hh
   cases b
   case false =>
    gi_wp2_with (first | (exfalso; have h_ := (by assumption : some undef = some (Value.bool _)); simp [undef] at h_; done) | (refine ⟨trivial, rfl, ?_⟩; refine (callsIn_wide.2 (InG.leaf (HG.out.below HI.out.2.own.below) HO.out HLE.out)).mono ?_; rintro e w4 ⟨rfl, hb⟩; have HB4 := Aside0.mk hb; have z3 := kc hb z1; have z4 := blk_frozen (HI.out.2.step (IStep.of_below hb)).c 0; clear hb z1 z2) | (refine ⟨trivial, ?_⟩))
    exact NBAD.out HB4.out (by first | rfl | trivial)
   case true =>
    gi_wp2_with (first | (exfalso; have h_ := (by assumption : some undef = some (Value.bool _)); simp [undef] at h_; done) | (refine ⟨trivial, rfl, ?_⟩; refine (callsIn_wide.2 (InG.leaf (HG.out.below HI.out.2.own.below) HO.out HLE.out)).mono ?_; rintro e w4 ⟨rfl, hb⟩; have HB4 := Aside0.mk hb; have d0 : w4.cell? ⟨bx, 0, none⟩ = some (.int .i64 x2.f0) := kc hb b0; clear hb z1 z2) | (refine ⟨trivial, ?_⟩))
    exact NOK.out HB4.out (by first | rfl | trivial)
  case neg =>
   rw [if_neg e4] at hh
   have e4b : decide (0 < x2.f0) = false := decide_eq_false e4
   have e5b : decide (x2.f0 < 0) = true := decide_eq_true (by omega)
   have HLE := Aside0.mk hh
   clear e2 e4 hh
   cases b
   case false =>
    gi_wp2_with (first | (exfalso; have h_ := (by assumption : some undef = some (Value.bool _)); simp [undef] at h_; done) | (refine ⟨trivial, rfl, ?_⟩; refine (callsIn_wide.2 (InG.inner (HG.out.below HI.out.2.own.below) HO.out HLE.out)).mono ?_; rintro e w4 ⟨rfl, hb⟩; have HB4 := Aside0.mk hb; have z3 := kc hb z1; have z4 := blk_frozen (HI.out.2.step (IStep.of_below hb)).c 0; clear hb z1 z2) | (refine ⟨trivial, ?_⟩))
    exact NBAD.out HB4.out (by first | rfl | trivial)
   case true =>
    gi_wp2_with (first | (exfalso; have h_ := (by assumption : some undef = some (Value.bool _)); simp [undef] at h_; done) | (refine ⟨trivial, rfl, ?_⟩; refine (callsIn_wide.2 (InG.inner (HG.out.below HI.out.2.own.below) HO.out HLE.out)).mono ?_; rintro e w4 ⟨rfl, hb⟩; have HB4 := Aside0.mk hb; clear hb z1 z2) | (refine ⟨trivial, ?_⟩))
    exact NOK.out HB4.out (by first | rfl | trivial)
 case done =>
  rintro X W hI hXD hXb hD
  rw [hz] at hD
  have HI := Aside0.mk hI
  have HD := Aside0.mk hD
  have c1 : W.cell? ⟨w.heap.size + 1 + 1, 0, none⟩ = some (.bool false) := (blk_cell hI.2.c 0).trans rfl
  have f1 := blk_frozen hI.2.c 0
  clear hI hD hXb hXD hb0 hB hBa
  go_wp2
  have e1 := blk_put HI.out.2.c 0 (.bool true) rfl
  have hd := (Below.heap_setCell W ⟨w.heap.size + 1 + 1, 0, none⟩ (.bool true) _ (by simp <;> omega)).trans HD.out
  refine right_end e1 hd (HI.out.2.own.below.setCell (by simp <;> omega) _) (by omega) ?_
  have h1 := allGo_all k l0_0 l0_1 l0_2 l0_3 l0_4 (preN k0) (fun e he => by
   rw [← HL1.out] at he
   obtain ⟨d, hd, rfl⟩ := List.mem_map.1 he
   exact HI.out.1 d hd)
  rw [HH.out] at h1
  exact (Option.some.inj h1).symm
 case stop =>
  rintro c pre X W hpre ⟨rfl, he, hI, hf, hc⟩ hXD hD
  rw [hz] at hD
  have HI := Aside0.mk hI
  have HC := Aside0.mk hc
  have HD := Aside0.mk hD
  have HE := Aside0.mk he
  clear hI hD hpre he hXD hb0 hB hBa hc
  refine wpIn_wide.2 ?_
  go_wp2
  exact right_end HC.out HD.out HI.out.below (by omega) HE.out.symm
end
section
open Go.Proofs.YtphmgaijkdflnaaDoorW.PrintWords Go.Proofs.YtphmgaijkdflnaaDoorW.PrintLast Go.Proofs.YtphmgaijkdflnaaDoorW.PrintMore
open Go.Maps
def text_Runes.f (a0 : ByteArray) : Option (List S87) := if a0.size ≤ 4398046511104 then some (runesL a0) else none
theorem decodeGo_tail (s : ByteArray) (pos : Nat) (h : pos < s.size) : Lib.decodeGo (s.extract pos s.size) = Utf8.decode s pos := by
 unfold Lib.decodeGo
 rw [if_neg (by simp; omega), Lib.tail_decode]
 rfl
def RunesRel (s : ByteArray) (w : World) (v : Value) (wr : World) : Prop :=
 ∃ (pos fuel : Nat) (acc : List S87), acc ++ runesFrom s fuel pos = runesL s ∧ s.size ≤ pos + fuel ∧ pos ≤ s.size ∧ acc.length ≤ pos ∧ wr.heap[w.heap.size]? = some (.stringIter s pos) ∧ Below w.heap.size w wr ∧ Kd.R k87 87 wr w.heap.size (fun k => k ≠ w.heap.size) v acc
theorem RunesRel.next {s : ByteArray} {w wr W : World} {pos f : Nat} {acc : List S87} {v : Value} (hp : pos < s.size) (hL : acc ++ runesFrom s (f + 1) pos = runesL s) (hfu : s.size ≤ pos + (f + 1)) (hal : acc.length ≤ pos)
  (hit0 : wr.heap[w.heap.size]? = some (.stringIter s pos)) (hit : W.heap[w.heap.size]? = some (.stringIter s (pos + (Utf8.decode s pos).2))) (hB : Below w.heap.size w W)
  (hR : Kd.R k87 87 W w.heap.size (fun k => k ≠ w.heap.size) v (acc ++ [⟨((Utf8.decode s pos).1 : Int), (pos : Int), ((Utf8.decode s pos).2 : Int)⟩])) :
  RunesRel s w v W ∧ s.size - W.iterPos w.heap.size < s.size - wr.iterPos w.heap.size := by
 have h1 := rune_w_pos s pos
 have h2 := rune_w_le s pos hp
 refine ⟨⟨_, f, _, ?_, by omega, by omega, by simp; omega, hit, hB, hR⟩, ?_⟩
 ·rw [← hL]; simp [runesFrom, hp]
 ·simp only [World.iterPos, hit0, hit]; omega
theorem text_Runes.calls (a0 : ByteArray) (r : List (S87)) (w : World) (hgw : GW w) (h : text_Runes.f a0 = some r) :
  Calls Tryd.prog 67 #[.string a0] w fun e w' => ∃ v0_ : Value, e = .returned (v0_) ∧ Kd.R k87 87 w' w.heap.size (fun _ => True) v0_ r ∧ Below w.heap.size w w' := by
 unfold text_Runes.f at h
 split at h
 case isFalse => cases h
 rename_i hs
 have HP := Aside0.mk (Option.some.inj h)
 have HS := Aside0.mk hs
 have HGW := Aside0.mk hgw
 clear h hs hgw
 have hu := Tryd.underlying87
 go_enter Tryd.func67, Tryd.ntmps67
 go_wp2
 go_loopw [3] (fun v wr => RunesRel a0 w v wr) (fun _ wr => a0.size - wr.iterPos w.heap.size)
 case atStart => exact ⟨0, a0.size, [], rfl, by omega, by omega, by simp, World.iter_heap w a0 0, below_alloc (Below.refl _ _) _, Kd.R_nil _ _ _ _ _⟩
 case round =>
  obtain ⟨pos, fuel, acc, hL, hfu, hpo, hal, hit, hB, hR⟩ := hrel
  by_cases hp : pos < a0.size
  ·have hnx : ∀ ty, (Instr.next (.pointer (some ⟨w.heap.size, 0, none⟩)) true ty).run Tryd.prog wr = _ := fun ty => Lib.run_next_any_at wr w.heap.size a0 pos ty hit hp
   have hd1 := decode_le a0 pos
   have hit2 := Lib.iterAt_heap wr w.heap.size a0 pos (pos + (Utf8.decode a0 pos).2) hit
   have hb2 := Lib.below_iterAt hB (k := w.heap.size) (Nat.le_refl _) a0 (pos + (Utf8.decode a0 pos).2)
   have hr2 := Kd.R_grown hR (w1 := wr.iterAt w.heap.size a0 (pos + (Utf8.decode a0 pos).2)) (row := some w.heap.size) ⟨rfl, rfl, rfl, by rw [Lib.iterAt_size]; exact Nat.le_refl _, fun i hi hk => Lib.iterAt_other wr w.heap.size i a0 _ (fun e => hk (by rw [e]))⟩ (fun k hk e => hk (by injection e))
   have hgw2 := HGW.out.below hb2
   have hs2 := HS.out
   obtain ⟨f, rfl⟩ : ∃ f, fuel = f + 1 := ⟨fuel - 1, by omega⟩
   have HL := Aside0.mk hL
   have HIT := Aside0.mk hit
   have HIT2 := Aside0.mk hit2
   have HB2 := Aside0.mk hb2
   have HR2 := Aside0.mk hr2
   have HG2 := Aside0.mk hgw2
   have HT := Aside0.mk (decodeGo_tail a0 pos hp)
   have hpi : (pos : Int) ≤ a0.size := by omega
   clear hL hit hit2 hb2 hr2 hgw2 hB hR
   go_wp2_with (first
    | (go_at_call 79; refine (Any.utf8_DecodeRuneInString Tryd.ly197 _ _ HG2.out.u8).mono ?_; rintro e W2 ⟨rfl, hb⟩; have hT := HT.out; rw [hT]; have HB3 := Aside0.mk (below_step HB2.out hb); have HR3 := Aside0.mk (Kd.R_below HR2.out hb); have HIT3 := Aside0.mk (blk_below HIT2.out hb); clear hT hb)
    | ((with_reducible refine gate_builtin (b := .append) (xs := #[.tmp 21, .tmp 26]) rfl ?_); at_builtin; refine Kd.R_append k87 (w0 := w) w.heap.size rfl (.tmp 21) (.tmp 26) 84 87 (.agg #[(.int .i32 0), (.int .i64 0), (.int .i64 0)]) 24 rfl Tryd.underlying84 info87 rfl (by decide) (by omega) u3 acc ⟨((Utf8.decode a0 pos).1 : Int), (pos : Int), ((Utf8.decode a0 pos).2 : Int)⟩ [.int .i32 ((Utf8.decode a0 pos).1 : Int), .int .i64 (pos : Int), .int .i64 ((Utf8.decode a0 pos).2 : Int)] (fun k => k ≠ w.heap.size) (fun _ => False) rfl rfl ?aP (fun _ hk => hk.elim) ?aF ?aO ?aB ?aS ?aL ?_; (case aP => exact k87_mkM _ _ _ (⟨((Utf8.decode a0 pos).1 : Int), (pos : Int), ((Utf8.decode a0 pos).2 : Int)⟩ : S87)); (case aB => exact HB3.out); (case aF => exact (fun k hk e => by have := blk_lt HIT3.out; omega)); (case aO => exact HR3.out); (case aS => exact (below_size HB3.out)); (case aL => omega); intro v121 w8 ho hb hg hat; have HIT8 := Aside0.mk (blk_grown HIT3.out hg (fun e => HR3.out.1 _ e.symm rfl)); have HB8 := Aside0.mk hb; have HR8 := Aside0.mk ho; clear ho hb hg hat))
   go_roundw
   case rel => exact (RunesRel.next hp HL.out hfu hal HIT.out HIT8.out HB8.out HR8.out).1
   case measure => exact (RunesRel.next hp HL.out hfu hal HIT.out HIT8.out HB8.out HR8.out).2
  ·have hnx : ∀ ty, (Instr.next (.pointer (some ⟨w.heap.size, 0, none⟩)) true ty).run Tryd.prog wr = _ := fun ty => Lib.run_next_end_at wr w.heap.size a0 pos ty hit hp
   rw [runesFrom_end a0 fuel pos hp, List.append_nil] at hL
   have HB := Aside0.mk hB
   have HR := Aside0.mk hR
   have HL := Aside0.mk hL
   clear hit hB hR hL
   go_wp2
   go_ret
   exact ⟨_, rfl, by rw [← HP.out, ← HL.out]; exact Kd.R_mono HR.out (fun _ _ => trivial), HB.out⟩
def hexD (d : Nat) : UInt8 := UInt8.ofNat (if d < 10 then 48 + d else 87 + d)
def hexL : Nat → Nat → List UInt8 → List UInt8
 | 0, u, acc => hexD (u % 16) :: acc
 | f + 1, u, acc => if 16 ≤ u then hexL f (u / 16) (hexD (u % 16) :: acc) else hexD u :: acc
theorem pow2_calls (w : World) : Calls Tryd.prog 95 #[.int .i64 16] w fun e w' => e = .returned (.bool true) ∧ w' = w := by
 go_enter Tryd.func95, Tryd.ntmps95
 go_wp2
 go_ret
 exact ⟨rfl, rfl⟩
theorem tz64_calls (w : World) (hdb : w.cell? ⟨4, 15, none⟩ = some (.int .u8 4)) : Calls Tryd.prog 98 #[.int .u64 16] w fun e w' => e = .returned (.int .i64 4) ∧ w' = w := by
 go_enter Tryd.func98, Tryd.ntmps98
 have e1 : bits BinOp.and IntKind.u64 16 (IntKind.u64.wrap (-16)) = 16 := by kernel_rfl
 have e2 : IntKind.u64.wrap (16 * 285870213051353865) = 4573923408821661840 := by kernel_rfl
 go_wp2
 go_ret
 exact ⟨rfl, rfl⟩
theorem tz_calls (w : World) (hdb : w.cell? ⟨4, 15, none⟩ = some (.int .u8 4)) : Calls Tryd.prog 96 #[.int .u64 16] w fun e w' => e = .returned (.int .i64 4) ∧ w' = w := by
 go_enter Tryd.func96, Tryd.ntmps96
 go_wp2_with (go_at_call 98; refine (tz64_calls _ hdb).mono ?_; rintro e w' ⟨rfl, rfl⟩)
 go_ret
 exact ⟨rfl, rfl⟩
def Row65 (g i : Nat) (acc : List UInt8) (w : World) : Prop :=
 ∃ cs : Array Value, w.heap[g]? = some (.cells cs 124 (0, 0)) ∧ cs.size = 65 ∧ i + acc.length = 65 ∧ (∀ j, j < 65 → ∃ c : Int, cs[j]? = some (.int .u8 c)) ∧ ∀ j (hj : j < acc.length), cs[i + j]? = some (.int .u8 (acc[j].toNat : Int))
theorem Row65.new (w : World) : Row65 w.heap.size 65 [] (w.alloc (.cells (Array.replicate 65 (.int .u8 0)) 124)) :=
 ⟨_, blk_new w _, by simp, rfl, fun j hj => ⟨0, by simp [hj]⟩, fun j hj => by simp at hj⟩
theorem Row65.cell {g i : Nat} {acc : List UInt8} {w : World} (h : Row65 g i acc w) (j : Nat) (hj : j < 65) : ∃ c : Int, w.cell? ⟨g, j, none⟩ = some (.int .u8 c) ∧ w.frozen? ⟨g, j, none⟩ = false := by
 obtain ⟨cs, hb, hs, hl, hall, hacc⟩ := h
 obtain ⟨c, hc⟩ := hall j hj
 exact ⟨c, (blk_cell hb j).trans hc, blk_frozen hb j⟩
theorem Row65.put {g i : Nat} {acc : List UInt8} {w : World} (h : Row65 g (i + 1) acc w) (c : UInt8) : Row65 g i (c :: acc) (w.setCell ⟨g, i, none⟩ (.int .u8 (c.toNat : Int))) := by
 obtain ⟨cs, hb, hs, hl, hall, hacc⟩ := h
 refine ⟨_, blk_put hb i _ rfl, by simp [hs], by simp; omega, fun j hj => ?_, fun j hj => ?_⟩
 ·by_cases e : i = j
  ·subst e; exact ⟨_, by rw [Array.getElem?_setIfInBounds_self_of_lt (by omega)]⟩
  ·rw [Array.getElem?_setIfInBounds_ne e]; exact hall j hj
 ·cases j with
  | zero => rw [Nat.add_zero, Array.getElem?_setIfInBounds_self_of_lt (by omega)]; rfl
  | succ j =>
   rw [Array.getElem?_setIfInBounds_ne (by omega)]
   have := hacc j (by simpa using hj)
   rw [show i + (j + 1) = i + 1 + j by omega]
   simpa using this
theorem Row65.read {g i : Nat} {acc : List UInt8} {w : World} (h : Row65 g i acc w) (cap : Nat) : (convert 50 9 (.slice (some ⟨g, i, none⟩) (65 - i) cap)).run Tryd.prog w = .ok (.string ⟨acc.toArray⟩) w := by
 obtain ⟨cs, hb, hs, hl, hall, hacc⟩ := h
 rw [show 65 - i = acc.length by omega]
 refine run_convert_bytes_back w 50 9 5 ⟨g, i, none⟩ cap acc Tryd.underlying50 Tryd.underlying5 Tryd.underlying9 (fun j hj => ?_)
 have : (⟨g, i, none⟩ : Addr).add j = ⟨g, i + j, none⟩ := by cases j <;> simp [Addr.add]
 rw [this, blk_cell hb]
 exact hacc j hj
theorem dig36 (d : Nat) (hd : d < 16) : ∀ h, (⟨#[48, 49, 50, 51, 52, 53, 54, 55, 56, 57, 97, 98, 99, 100, 101, 102, 103, 104, 105, 106, 107, 108, 109, 110, 111, 112, 113, 114, 115, 116, 117, 118, 119, 120, 121, 122]⟩ : ByteArray)[d]'h = hexD d := by
 have H : ∀ d, d < 16 → ∀ h, (⟨#[48, 49, 50, 51, 52, 53, 54, 55, 56, 57, 97, 98, 99, 100, 101, 102, 103, 104, 105, 106, 107, 108, 109, 110, 111, 112, 113, 114, 115, 116, 117, 118, 119, 120, 121, 122]⟩ : ByteArray)[d]'h = hexD d := by decide
 exact H d hd
theorem sl65 (g j : Nat) (hj : j < 65) (W : World) : (Instr.sliceAt 124 (.pointer (some ⟨g, 0, none⟩)) (some (.int .i64 (j : Int))) none none).run Tryd.prog W = .ok (.slice (some ⟨g, j, none⟩) (65 - j) (65 - j)) W := by
 have hal : Tryd.prog.arrayLen 124 = 65 := by simp [Program.arrayLen, Tryd.underlying124]
 rw [run_sliceAt_array_l W 124 ⟨g, 0, none⟩ (by simp [Program.arrayLen, Program.elem, Tryd.underlying124]) .i64 (j : Int) (by omega) (by rw [hal]; omega)]
 rw [hal]
 go_simp
 omega
def FbRel (g u : Nat) (vu vi : Value) (w wr : World) : Prop :=
 ∃ (f v i : Nat) (acc : List UInt8), vu = .int .u64 (v : Int) ∧ vi = .int .i64 (i : Int) ∧ v < 16 ^ (f + 1) ∧ f + 50 ≤ i ∧ i ≤ 65 ∧ f ≤ 14 ∧ hexL f v acc = hexL 14 u [] ∧ Row65 g i acc wr ∧ Below g w wr
theorem fb_and (v : Nat) (h : v < 18446744073709551616) : bits BinOp.and IntKind.u64 (v : Int) 15 = ((v % 16 : Nat) : Int) := by
 have := bits_mask .u64 64 (by decide) (fun n h0 h1 => by simp [IntKind.wrap, IntKind.bits, IntKind.signed]; omega) 4 (by decide) (v : Int) (by omega) (by omega)
 simpa using this
theorem formatBits_calls (u : Nat) (hu : u < 2147483648) (w : World) (hdb : w.cell? ⟨4, 15, none⟩ = some (.int .u8 4)) :
  Calls Tryd.prog 91 #[.slice none 0 0, .int .u64 (u : Int), .int .i64 16, .bool false, .bool false] w fun e w' => e = .returned (.tuple #[.slice none 0 0, .string ⟨(hexL 14 u []).toArray⟩]) ∧ Below w.heap.size w w' := by
 have HDB := Aside0.mk (cell_below hdb (below_alloc (Below.refl _ w) (.cells (Array.replicate 65 (.int .u8 0)) 124)))
 clear hdb
 go_enter Tryd.func91, Tryd.ntmps91
 go_wp2_with (first
  | (go_at_call 95; refine (pow2_calls _).mono ?_; rintro e w' ⟨rfl, rfl⟩)
  | (go_at_call 96; refine (tz_calls _ ?_).mono ?_; (case _ => exact HDB.out); rintro e w' ⟨rfl, rfl⟩))
 go_loopw [1, 13] (fun vu vi wr => FbRel w.heap.size u vu vi w wr) (fun vu _ _ => (intOf vu).toNat)
 case atStart => exact ⟨14, u, 65, [], rfl, rfl, by omega, by omega, by omega, by omega, rfl, Row65.new w, below_alloc (Below.refl _ _) _⟩
 case round =>
  obtain ⟨f, v, i, acc, rfl, rfl, hv, hi, hi2, hf, hL, hR, hB⟩ := hrel
  have hv64 : v < 18446744073709551616 := by
   have : (16 : Nat) ^ (f + 1) ≤ 16 ^ 15 := Nat.pow_le_pow_right (by omega) (by omega)
   omega
  obtain ⟨c, hc, hfz⟩ := hR.cell (i - 1) (by omega)
  obtain ⟨j, rfl⟩ : ∃ j, i = j + 1 := ⟨i - 1, by omega⟩
  rw [Nat.add_sub_cancel] at hc hfz
  have hd16 : v % 16 < 16 := Nat.mod_lt _ (by omega)
  have hij : ((j + 1 : Nat) : Int) - 1 = (j : Int) := by omega
  have hjn : ((j : Int)).toNat = j := rfl
  have HV := Aside0.mk hv
  have HL := Aside0.mk hL
  have HR := Aside0.mk hR
  have HB := Aside0.mk hB
  clear hv hL hR hB
  by_cases h16 : 16 ≤ v
  ·have h16b : decide ((v : Int) ≥ 16) = true := by simp; omega
   have hdg := dig36 (v % 16) (by omega)
   have hand := fb_and v hv64
   go_wp2
   go_roundw
   case rel =>
    have hf1 : 1 ≤ f := by
     have := HV.out
     cases f with
     | zero => omega
     | succ f => omega
    refine ⟨f - 1, v / 16, j, hexD (v % 16) :: acc, by push_cast; rfl, rfl, ?_, by omega, by omega, by omega, ?_, HR.out.put _, HB.out.setCell (p := ⟨w.heap.size, j, none⟩) (Nat.le_refl _) _⟩
    ·have := HV.out
     cases f with
     | zero => omega
     | succ f => rw [Nat.pow_succ] at this; simp only [Nat.add_sub_cancel]; omega
    ·rw [← HL.out]
     cases f with
     | zero => have := HV.out; omega
     | succ f => simp only [Nat.add_sub_cancel, hexL]; rw [if_pos h16]
   case measure => simp [intOf]; omega
  ·have h16b : decide ((v : Int) ≥ 16) = false := by simp; omega
   have hdg := dig36 v (by omega)
   have hsl := sl65 w.heap.size j (by omega)
   have hcv := (HR.out.put (hexD v)).read (65 - j)
   go_wp2
   go_ret2
   have e : hexD v :: acc = hexL 14 u [] := by
    rw [← HL.out]
    cases f with
    | zero => simp only [hexL]; rw [Nat.mod_eq_of_lt (by omega)]
    | succ f => simp only [hexL]; rw [if_neg h16]
   exact ⟨by rw [e]; rfl, HB.out.setCell (p := ⟨w.heap.size, j, none⟩) (Nat.le_refl _) _⟩
theorem formatInt16_calls (u : Nat) (hu : u < 2147483648) (w : World) (hdb : w.cell? ⟨4, 15, none⟩ = some (.int .u8 4)) :
  Calls Tryd.prog 87 #[.int .i64 (u : Int), .int .i64 16] w fun e w' => e = .returned (.string ⟨(hexL 14 u []).toArray⟩) ∧ Below w.heap.size w w' := by
 have HDB := Aside0.mk hdb
 clear hdb
 go_enter Tryd.func87, Tryd.ntmps87
 go_wp2_with (go_at_call 91; refine (formatBits_calls _ hu _ HDB.out).mono ?_; rintro e w' ⟨rfl, hb⟩)
 go_ret
 exact ⟨rfl, hb⟩
theorem formatInt16p_calls (u : Nat) (hu : u < 2147483648) (w : World) (hdb : w.cell? ⟨4, 15, none⟩ = some (.int .u8 4)) :
  Calls Tryd.prog 80 #[.int .i64 (u : Int), .int .i64 16] w fun e w' => e = .returned (.string ⟨(hexL 14 u []).toArray⟩) ∧ Below w.heap.size w w' := by
 have HDB := Aside0.mk hdb
 clear hdb
 go_enter Tryd.func80, Tryd.ntmps80
 go_wp2_with (go_at_call 87; refine (formatInt16_calls _ hu _ HDB.out).mono ?_; rintro e w' ⟨rfl, hb⟩)
 go_ret
 exact ⟨rfl, hb⟩
def text_hex.f (n : Int) : Option ByteArray := if 0 ≤ n ∧ n < 2147483648 then some ⟨(hexL 14 n.toNat []).toArray⟩ else none
theorem text_hex.calls (a0 : Int) (r : ByteArray) (w : World) (hgw : GW w) (h : text_hex.f a0 = some r) :
  Calls Tryd.prog 68 #[.int .i32 a0] w fun e w' => e = .returned (.string r) ∧ Below w.heap.size w w' := by
 unfold text_hex.f at h
 split at h
 case isFalse => cases h
 rename_i hs
 have HP := Aside0.mk (Option.some.inj h)
 obtain ⟨u, rfl⟩ := Int.eq_ofNat_of_zero_le hs.1
 have hu : u < 2147483648 := by omega
 have HDB := Aside0.mk (hgw.db 15 (by decide))
 clear h hs hgw
 go_enter Tryd.func68, Tryd.ntmps68
 go_wp2_with (go_at_call 80; refine (formatInt16p_calls u hu _ HDB.out).mono ?_; rintro e w' ⟨rfl, hb⟩)
 go_ret
 exact ⟨by rw [← HP.out]; rfl, hb⟩
def Bd (g : Nat) (acc : List UInt8) (w : World) : Prop := Lib.IsBuilderF 69 5 g g (Lib.byteCells acc) w
theorem Bd.new (w : World) : Bd w.heap.size [] (w.alloc (.cells #[.pointer none, .slice none 0 0] 69)) := .of (Lib.fresh_isBuilder _ _ w)
theorem Bd.lt {g : Nat} {acc : List UInt8} {w : World} (h : Bd g acc w) : g < w.heap.size := by
 rcases h with h | h
 ·exact h.lt
 ·exact h.lt
theorem bat_below {T e : TypeId} {B b : Nat} {p : Value} {bs : List Value} {w W : World} (h : Lib.BuilderAtF T e B b p bs w) (hb : Below w.heap.size w W) : Lib.BuilderAtF T e B b p bs W := by
 obtain ⟨hB, v, hbk, hown, hne⟩ := h
 exact ⟨hB, v, blk_below hbk hb, hown.kept (grown_of_below hb none) (by cases v.ownBlock <;> simp), hne⟩
theorem Bd.below {g : Nat} {acc : List UInt8} {w W : World} (h : Bd g acc w) (hb : Below w.heap.size w W) : Bd g acc W := by
 rcases h with h | h
 ·exact .inl (bat_below h hb)
 ·exact .inr (bat_below h hb)
theorem Bd.alloc {g : Nat} {acc : List UInt8} {w : World} (h : Bd g acc w) (o : Obj) : Bd g acc (w.alloc o) := h.below (below_alloc (Below.refl _ _) o)
theorem Bd.drewN {g : Nat} {acc : List UInt8} {w : World} (h : Bd g acc w) (n : Nat) : Bd g acc (w.drewN n) := h.below (pw_below_drewN (Below.refl _ _) n)
theorem Bd.write {g : Nat} {acc : List UInt8} {w : World} (h : Bd g acc w) (s : ByteArray) (hlen : acc.length + s.size ≤ 140737488355328) :
  Calls Tryd.prog 45 #[.pointer (some ⟨g, 0, none⟩), .string s] w fun e w' => e = .returned (.tuple #[.int .i64 s.size, .nilIface]) ∧ Bd g (acc ++ s.data.toList) w' ∧ Below g w w' ∧ Lib.OthersKept 5 (some g) w w' := by
 refine (Any.Builder_WriteString_k Tryd.ly166 Tryd.bx g g _ s w h (by rw [Lib.byteCells_length]; exact hlen) (Nat.le_of_lt h.lt)).mono ?_
 rintro e w' ⟨rfl, h1, h2, h3⟩
 refine ⟨rfl, ?_, h2, h3⟩
 unfold Bd
 rw [Lib.byteCells_append]
 exact Or.inr h1
theorem Bd.string {g : Nat} {acc : List UInt8} {w : World} (h : Bd g acc w) :
  Calls Tryd.prog 46 #[.pointer (some ⟨g, 0, none⟩)] w fun e w' => e = .returned (.string ⟨acc.toArray⟩) ∧ Below g w w' := by
 refine (Any.Builder_String_any_k Tryd.ly169 Tryd.bx g g acc w h (Nat.le_of_lt h.lt)).mono ?_
 rintro e w' ⟨rfl, _, h2, _⟩
 exact ⟨rfl, h2⟩
theorem keep_blk {g k : Nat} {w W : World} {c : Array Value} {T : TypeId} {fz : Nat × Nat} (h : Lib.OthersKept 5 (some g) w W) (hk : w.heap[k]? = some (.cells c T fz)) (hne : k ≠ g) (hT : T ≠ 5) : W.heap[k]? = some (.cells c T fz) :=
 h k _ hk (by simpa using hne) (fun c' fz' e => hT (by injection e))
theorem Bd.byte {g : Nat} {acc : List UInt8} {w : World} (h : Bd g acc w) (c : UInt8) (hlen : acc.length + 1 ≤ 140737488355328) :
  Calls Tryd.prog 66 #[.pointer (some ⟨g, 0, none⟩), .int .u8 c.toNat] w fun e w' => e = .returned .nilIface ∧ Bd g (acc ++ [c]) w' ∧ Below g w w' ∧ Lib.OthersKept 5 (some g) w w' := by
 refine (Any.Builder_WriteByte_k Tryd.ly167 Tryd.bx g g _ c.toNat w h (by rw [Lib.byteCells_length]; exact hlen) (Nat.le_of_lt h.lt)).mono ?_
 rintro e w' ⟨rfl, h1, h2, h3⟩
 refine ⟨rfl, ?_, h2, h3⟩
 unfold Bd
 rw [Lib.byteCells_append]
 exact Or.inr h1
end
end Go.Proofs.YtphmgaijkdflnaaDoor.H
end
