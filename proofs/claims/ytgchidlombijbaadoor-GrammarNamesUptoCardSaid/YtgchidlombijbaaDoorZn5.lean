import Derived.Shelf.Lays
import Derived.Shelf.LaysM
import Derived.Shelf.Strings.BuilderX
import Derived.KernelRfl
import Derived.Test.YtgchidlombijbaaDoorProg
import Derived.Shelf.Strings.BuilderK
import Derived.Shelf.Strings.OnBuilder
import Derived.Shelf.Strconv.Itoa3
import Derived.Test.YtgchidlombijbaaDoorRows
import Derived.Lib.Walk
import Derived.Test.YtgchidlombijbaaDoorZn4
section
namespace Go.Proofs
open Go.Shelf
set_option maxRecDepth 100000
def Tryd.ren : Go.Shelf.Ren := ⟨fun | 0 => 0 | 1 => 1 | 2 => 2 | 111 => 43 | 129 => 73 | 156 => 37 | 165 => 55 | 166 => 38 | 169 => 40 | 171 => 57 | 193 => 44 | 240 => 56 | 241 => 63 | 243 => 65 | 246 => 67 | 276 => 64 | 277 => 66 | 283 => 68 | 284 => 69 | 285 => 70 | 286 => 71 | 317 => 72 | 318 => 74 | 319 => 75 | 320 => 76 | 337 => 77 | 338 => 78 | 347 => 79 | 348 => 80 | 349 => 81 | 350 => 82 | 351 => 83 | 352 => 84 | 353 => 85 | 354 => 86 | 355 => 87 | 356 => 88 | 357 => 89 | 358 => 90 | 359 => 91 | 360 => 92 | 361 => 93 | 362 => 94 | 366 => 95 | 367 => 101 | n => n, fun | 0 => 0 | 1 => 1 | 2 => 2 | 3 => 3 | 4 => 4 | 5 => 5 | 6 => 6 | 7 => 7 | 8 => 8 | 9 => 9 | 10 => 10 | 11 => 11 | 12 => 12 | 13 => 13 | 14 => 14 | 15 => 15 | 16 => 16 | 17 => 17 | 18 => 18 | 19 => 19 | 20 => 20 | 21 => 21 | 28 => 33 | 31 => 22 | 34 => 40 | 37 => 57 | 46 => 100 | 47 => 101 | 51 => 98 | 52 => 102 | 53 => 90 | 54 => 91 | 67 => 55 | 70 => 56 | 71 => 58 | 72 => 59 | 73 => 80 | 74 => 60 | 75 => 61 | 76 => 62 | 77 => 63 | 80 => 65 | 81 => 110 | 83 => 64 | 84 => 88 | 101 => 67 | 111 => 78 | 114 => 95 | 127 => 81 | 131 => 35 | 164 => 85 | 165 => 86 | 166 => 87 | 171 => 89 | 172 => 92 | 173 => 93 | 174 => 94 | 211 => 96 | 212 => 97 | 213 => 99 | 232 => 103 | 233 => 104 | 238 => 105 | 239 => 106 | 240 => 107 | 241 => 108 | 242 => 109 | 243 => 111 | 244 => 112 | 245 => 113 | 246 => 114 | 247 => 115 | 248 => 116 | 249 => 117 | n => n, fun | 1 => 0 | 17 => 1 | 18 => 2 | 19 => 3 | n => n⟩
theorem Tryd.ly166 : Go.Proofs.Lays.n166 Tryd.prog Tryd.ren := {
  mixed := by kernel_rfl
  f166 := Tryd.func38.trans (congrArg some (by kernel_rfl))
  f240 := Tryd.func56.trans (congrArg some (by kernel_rfl))
  f276 := Tryd.func64.trans (congrArg some (by kernel_rfl))
  t0 := Tryd.underlying0
  a0 := Tryd.isAgg0
  z0 := Tryd.sizeOf0
  v0 := Tryd.zeroValue0
  t3 := Tryd.underlying3
  a3 := Tryd.isAgg3
  z3 := Tryd.sizeOf3
  v3 := Tryd.zeroValue3
  t4 := Tryd.underlying4
  a4 := Tryd.isAgg4
  z4 := Tryd.sizeOf4
  v4 := Tryd.zeroValue4
  t9 := Tryd.underlying9
  a9 := Tryd.isAgg9
  z9 := Tryd.sizeOf9
  v9 := Tryd.zeroValue9
  t20 := Tryd.underlying20
  a20 := Tryd.isAgg20
  z20 := Tryd.sizeOf20
  v20 := Tryd.zeroValue20
  t37 := Tryd.underlying57
  a37 := Tryd.isAgg57
  z37 := Tryd.sizeOf57
  v37 := Tryd.zeroValue57
  t70 := Tryd.underlying56
  a70 := Tryd.isAgg56
  z70 := Tryd.sizeOf56
  v70 := Tryd.zeroValue56
  t72 := Tryd.underlying59
  a72 := Tryd.isAgg59
  z72 := Tryd.sizeOf59
  v72 := Tryd.zeroValue59
  t75 := Tryd.underlying61
  a75 := Tryd.isAgg61
  z75 := Tryd.sizeOf61
  v75 := Tryd.zeroValue61
  t164 := Tryd.underlying85
  a164 := Tryd.isAgg85
  z164 := Tryd.sizeOf85
  v164 := Tryd.zeroValue85 }
theorem Tryd.ly169 : Go.Proofs.Lays.n169 Tryd.prog Tryd.ren := {
  mixed := by kernel_rfl
  f169 := Tryd.func40.trans (congrArg some (by kernel_rfl))
  t0 := Tryd.underlying0
  a0 := Tryd.isAgg0
  z0 := Tryd.sizeOf0
  v0 := Tryd.zeroValue0
  t3 := Tryd.underlying3
  a3 := Tryd.isAgg3
  z3 := Tryd.sizeOf3
  v3 := Tryd.zeroValue3
  t9 := Tryd.underlying9
  a9 := Tryd.isAgg9
  z9 := Tryd.sizeOf9
  v9 := Tryd.zeroValue9
  t37 := Tryd.underlying57
  a37 := Tryd.isAgg57
  z37 := Tryd.sizeOf57
  v37 := Tryd.zeroValue57
  t70 := Tryd.underlying56
  a70 := Tryd.isAgg56
  z70 := Tryd.sizeOf56
  v70 := Tryd.zeroValue56
  t72 := Tryd.underlying59
  a72 := Tryd.isAgg59
  z72 := Tryd.sizeOf59
  v72 := Tryd.zeroValue59
  t127 := Tryd.underlying81
  a127 := Tryd.isAgg81
  z127 := Tryd.sizeOf81
  v127 := Tryd.zeroValue81 }
theorem Tryd.ly156 : Go.Proofs.Lays.n156 Tryd.prog Tryd.ren := {
  mixed := by kernel_rfl
  f156 := Tryd.func37.trans (congrArg some (by kernel_rfl))
  f165 := Tryd.func55.trans (congrArg some (by kernel_rfl))
  f166 := Tryd.func38.trans (congrArg some (by kernel_rfl))
  f169 := Tryd.func40.trans (congrArg some (by kernel_rfl))
  f240 := Tryd.func56.trans (congrArg some (by kernel_rfl))
  f241 := Tryd.func63.trans (congrArg some (by kernel_rfl))
  f276 := Tryd.func64.trans (congrArg some (by kernel_rfl))
  f277 := Tryd.func66.trans (congrArg some (by kernel_rfl))
  t0 := Tryd.underlying0
  a0 := Tryd.isAgg0
  z0 := Tryd.sizeOf0
  v0 := Tryd.zeroValue0
  t3 := Tryd.underlying3
  a3 := Tryd.isAgg3
  z3 := Tryd.sizeOf3
  v3 := Tryd.zeroValue3
  t4 := Tryd.underlying4
  a4 := Tryd.isAgg4
  z4 := Tryd.sizeOf4
  v4 := Tryd.zeroValue4
  t9 := Tryd.underlying9
  a9 := Tryd.isAgg9
  z9 := Tryd.sizeOf9
  v9 := Tryd.zeroValue9
  t20 := Tryd.underlying20
  a20 := Tryd.isAgg20
  z20 := Tryd.sizeOf20
  v20 := Tryd.zeroValue20
  t31 := Tryd.underlying22
  a31 := Tryd.isAgg22
  z31 := Tryd.sizeOf22
  v31 := Tryd.zeroValue22
  t37 := Tryd.underlying57
  a37 := Tryd.isAgg57
  z37 := Tryd.sizeOf57
  v37 := Tryd.zeroValue57
  t70 := Tryd.underlying56
  a70 := Tryd.isAgg56
  z70 := Tryd.sizeOf56
  v70 := Tryd.zeroValue56
  t72 := Tryd.underlying59
  a72 := Tryd.isAgg59
  z72 := Tryd.sizeOf59
  v72 := Tryd.zeroValue59
  t75 := Tryd.underlying61
  a75 := Tryd.isAgg61
  z75 := Tryd.sizeOf61
  v75 := Tryd.zeroValue61
  t76 := Tryd.underlying62
  a76 := Tryd.isAgg62
  z76 := Tryd.sizeOf62
  v76 := Tryd.zeroValue62
  t127 := Tryd.underlying81
  a127 := Tryd.isAgg81
  z127 := Tryd.sizeOf81
  v127 := Tryd.zeroValue81
  t164 := Tryd.underlying85
  a164 := Tryd.isAgg85
  z164 := Tryd.sizeOf85
  v164 := Tryd.zeroValue85 }
theorem Tryd.ly171M : Go.Proofs.LaysM.n171 Tryd.prog Tryd.ren := {
  mixed := by kernel_rfl
  f129 := Tryd.func73.trans (congrArg some (by kernel_rfl))
  f171 := Tryd.func57.trans (congrArg some (by kernel_rfl))
  f243 := Tryd.func65.trans (congrArg some (by kernel_rfl))
  f246 := Tryd.func67.trans (congrArg some (by kernel_rfl))
  f283 := Tryd.func68.trans (congrArg some (by kernel_rfl))
  f284 := Tryd.func69.trans (congrArg some (by kernel_rfl))
  f285 := Tryd.func70.trans (congrArg some (by kernel_rfl))
  f286 := Tryd.func71.trans (congrArg some (by kernel_rfl))
  f317 := Tryd.func72.trans (congrArg some (by kernel_rfl))
  f318 := Tryd.func74.trans (congrArg some (by kernel_rfl))
  f319 := Tryd.func75.trans (congrArg some (by kernel_rfl))
  f320 := Tryd.func76.trans (congrArg some (by kernel_rfl))
  f337 := Tryd.func77.trans (congrArg some (by kernel_rfl))
  f338 := Tryd.func78.trans (congrArg some (by kernel_rfl))
  t0 := Tryd.underlying0
  a0 := Tryd.isAgg0
  z0 := Tryd.sizeOf0
  v0 := Tryd.zeroValue0
  t2 := Tryd.underlying2
  a2 := Tryd.isAgg2
  z2 := Tryd.sizeOf2
  v2 := Tryd.zeroValue2
  t3 := Tryd.underlying3
  a3 := Tryd.isAgg3
  z3 := Tryd.sizeOf3
  v3 := Tryd.zeroValue3
  t4 := Tryd.underlying4
  a4 := Tryd.isAgg4
  z4 := Tryd.sizeOf4
  v4 := Tryd.zeroValue4
  t5 := Tryd.underlying5
  a5 := Tryd.isAgg5
  z5 := Tryd.sizeOf5
  v5 := Tryd.zeroValue5
  t9 := Tryd.underlying9
  a9 := Tryd.isAgg9
  z9 := Tryd.sizeOf9
  v9 := Tryd.zeroValue9
  t20 := Tryd.underlying20
  a20 := Tryd.isAgg20
  z20 := Tryd.sizeOf20
  v20 := Tryd.zeroValue20
  t37 := Tryd.underlying57
  a37 := Tryd.isAgg57
  z37 := Tryd.sizeOf57
  v37 := Tryd.zeroValue57
  t46 := Tryd.underlying100
  a46 := Tryd.isAgg100
  z46 := Tryd.sizeOf100
  v46 := Tryd.zeroValue100
  t51 := Tryd.underlying98
  a51 := Tryd.isAgg98
  z51 := Tryd.sizeOf98
  v51 := Tryd.zeroValue98
  t53 := Tryd.underlying90
  a53 := Tryd.isAgg90
  z53 := Tryd.sizeOf90
  v53 := Tryd.zeroValue90
  t171 := Tryd.underlying89
  a171 := Tryd.isAgg89
  z171 := Tryd.sizeOf89
  v171 := Tryd.zeroValue89
  t173 := Tryd.underlying93
  a173 := Tryd.isAgg93
  z173 := Tryd.sizeOf93
  v173 := Tryd.zeroValue93
  t212 := Tryd.underlying97
  a212 := Tryd.isAgg97
  z212 := Tryd.sizeOf97
  v212 := Tryd.zeroValue97
  t213 := Tryd.underlying99
  a213 := Tryd.isAgg99
  z213 := Tryd.sizeOf99
  t232 := Tryd.underlying103
  a232 := Tryd.isAgg103
  z232 := Tryd.sizeOf103
  v232 := Tryd.zeroValue103
  t233 := Tryd.underlying104
  a233 := Tryd.isAgg104
  z233 := Tryd.sizeOf104
  v233 := Tryd.zeroValue104
  g17 := by kernel_rfl
  g18 := by kernel_rfl
  g19 := by kernel_rfl
  i0 := by kernel_rfl
  i2 := by kernel_rfl
  i3 := by kernel_rfl
  i4 := by kernel_rfl
  i5 := by kernel_rfl
  i9 := by kernel_rfl
  i20 := by kernel_rfl
  i37 := by kernel_rfl
  i46 := by kernel_rfl
  i51 := by kernel_rfl
  i53 := by kernel_rfl
  i171 := by kernel_rfl
  i173 := by kernel_rfl
  i212 := by kernel_rfl
  i232 := by kernel_rfl
  i233 := by kernel_rfl
  m17 := by kernel_rfl
  m18 := by kernel_rfl
  m19 := by kernel_rfl }
theorem Tryd.bx : Builder.Extra Tryd.prog Tryd.ren := {
  sizeBuilder := by kernel_rfl
  liesBuilder := by kernel_rfl
  t5 := Tryd.underlying5
  a5 := Tryd.isAgg5
  z5 := Tryd.sizeOf5
  v5 := Tryd.zeroValue5
  infoByte := by kernel_rfl
  cellsByte := by kernel_rfl
  sizeByte := by kernel_rfl
  neB5 := by decide }
end Go.Proofs
end
section
namespace Go.Proofs.YtgchidlombijbaaDoor.H
open Go.RowKit Go.Proofs.YtgchidlombijbaaDoorW.PrintWords Go.Proofs.YtgchidlombijbaaDoorW.PrintLast Go.Proofs.YtgchidlombijbaaDoorW.PrintMore
open Go.Maps
set_option linter.unusedVariables false
set_option linter.unusedSimpArgs false
def GW (w : World) : Prop := Lib.TabIs Tryd.prog w "internal/strconv.uint64pow10" .u64 Lib.pow10Tab
theorem var_below {w W : World} {n : String} {g : Nat} (hg : Tryd.prog.globalNamed n = some g) {x : Array Value} (h : w.var? Tryd.prog n = some x) (hb : Below w.heap.size w W) : W.var? Tryd.prog n = some x := by
  unfold World.var? at h ⊢
  rw [hg] at h ⊢
  simp only [Option.bind_some] at h ⊢
  have hlt : g < w.heap.size := by
    rcases Nat.lt_or_ge g w.heap.size with h' | h'
    · exact h'
    · rw [Array.getElem?_eq_none h'] at h; cases h
  rw [hb.block g hlt]
  exact h
theorem GW.below {w W : World} (h : GW w) (hb : Below w.heap.size w W) : GW W := var_below (g := 1) (by kernel_rfl) h hb
def Bd (g : Nat) (acc : List UInt8) (w : World) : Prop := Lib.IsBuilderF 59 5 g g (Lib.byteCells acc) w
theorem Bd.new (w : World) : Bd w.heap.size [] (w.alloc (.cells #[.pointer none, .slice none 0 0] 59)) := .of (Lib.fresh_isBuilder _ _ w)
theorem alloc_size (w : World) (o : Obj) : (w.alloc o).heap.size = w.heap.size + 1 := Array.size_push ..
theorem Bd.new1 (w : World) (o : Obj) : Bd (w.heap.size + 1) [] ((w.alloc o).alloc (.cells #[.pointer none, .slice none 0 0] 59)) := by
  have := Bd.new (w.alloc o)
  rwa [alloc_size] at this
theorem Bd.lt {g : Nat} {acc : List UInt8} {w : World} (h : Bd g acc w) : g < w.heap.size := by
  rcases h with h | h
  · exact h.lt
  · exact h.lt
theorem bat_below {T e : TypeId} {B b : Nat} {p : Value} {bs : List Value} {w W : World} (h : Lib.BuilderAtF T e B b p bs w) (hb : Below w.heap.size w W) : Lib.BuilderAtF T e B b p bs W := by
  obtain ⟨hB, v, hbk, hown, hne⟩ := h
  exact ⟨hB, v, blk_below hbk hb, hown.kept (grown_of_below hb none) (by cases v.ownBlock <;> simp), hne⟩
theorem Bd.below {g : Nat} {acc : List UInt8} {w W : World} (h : Bd g acc w) (hb : Below w.heap.size w W) : Bd g acc W := by
  rcases h with h | h
  · exact .inl (bat_below h hb)
  · exact .inr (bat_below h hb)
theorem Bd.alloc {g : Nat} {acc : List UInt8} {w : World} (h : Bd g acc w) (o : Obj) : Bd g acc (w.alloc o) := h.below (below_alloc (Below.refl _ _) o)
theorem Bd.drewN {g : Nat} {acc : List UInt8} {w : World} (h : Bd g acc w) (n : Nat) : Bd g acc (w.drewN n) := h.below (pw_below_drewN (Below.refl _ _) n)
theorem Bd.write {g : Nat} {acc : List UInt8} {w : World} (h : Bd g acc w) (s : ByteArray) (hlen : acc.length + s.size ≤ 140737488355328) :
    Calls Tryd.prog 38 #[.pointer (some ⟨g, 0, none⟩), .string s] w fun e w' => e = .returned (.tuple #[.int .i64 s.size, .nilIface]) ∧ Bd g (acc ++ s.data.toList) w' ∧ Below g w w' ∧ Lib.OthersKept 5 (some g) w w' := by
  refine (Any.Builder_WriteString_k Tryd.ly166 Tryd.bx g g _ s w h (by rw [Lib.byteCells_length]; exact hlen) (Nat.le_of_lt h.lt)).mono ?_
  rintro e w' ⟨rfl, h1, h2, h3⟩
  refine ⟨rfl, ?_, h2, h3⟩
  unfold Bd
  rw [Lib.byteCells_append]
  exact Or.inr h1
theorem Bd.string {g : Nat} {acc : List UInt8} {w : World} (h : Bd g acc w) :
    Calls Tryd.prog 40 #[.pointer (some ⟨g, 0, none⟩)] w fun e w' => e = .returned (.string ⟨acc.toArray⟩) ∧ Below g w w' := by
  refine (Any.Builder_String_any_k Tryd.ly169 Tryd.bx g g acc w h (Nat.le_of_lt h.lt)).mono ?_
  rintro e w' ⟨rfl, _, h2, _⟩
  exact ⟨rfl, h2⟩
theorem keep_blk {g k : Nat} {w W : World} {c : Array Value} {T : TypeId} {fz : Nat × Nat} (h : Lib.OthersKept 5 (some g) w W) (hk : w.heap[k]? = some (.cells c T fz)) (hne : k ≠ g) (hT : T ≠ 5) : W.heap[k]? = some (.cells c T fz) :=
  h k _ hk (by simpa using hne) (fun c' fz' e => hT (by injection e))
end Go.Proofs.YtgchidlombijbaaDoor.H
end
section
namespace Go.Proofs.YtgchidlombijbaaDoor.H
open Go.RowKit
theorem gw_of_laid {W : World} {rest : List (String × DataW Unit)} (h : laidMet Tryd.prog (("internal/strconv.uint64pow10", Rows.laid_internal_strconv_uint64pow10) :: rest) W) : GW W :=
  Lib.tabIs_of_head (g := 1) (t := 97) (e := 90) (n := 20) (by kernel_rfl) (by kernel_rfl) Tryd.underlying97 Tryd.underlying90 (by kernel_rfl) (by kernel_rfl) h
end Go.Proofs.YtgchidlombijbaaDoor.H
end
section
namespace Go.Proofs.YtgchidlombijbaaDoor.H
open Go.RowKit Go.Proofs.YtgchidlombijbaaDoorW.PrintWords Go.Proofs.YtgchidlombijbaaDoorW.PrintLast Go.Proofs.YtgchidlombijbaaDoorW.PrintMore
open Go.Maps
set_option linter.unusedVariables false
set_option linter.unusedSimpArgs false
def joined (l : List ByteArray) (sep : ByteArray) : List UInt8 := Lib.join (l.map (·.data.toList)) sep.data.toList
def strings_Join.ok (l : List ByteArray) (sep : ByteArray) : Bool := decide (l.length ≤ 140737488355328) && decide ((joined l sep).length ≤ 140737488355328)
def strings_Join.f (l : List ByteArray) (sep : ByteArray) : Option ByteArray := if strings_Join.ok l sep = true then some ⟨(joined l sep).toArray⟩ else none
theorem strings_Join.calls (A0 : Option Addr) (c0 : Nat) (l0 : List ByteArray) (a1 : ByteArray) (r : ByteArray) (w : World) (hr0 : Kd.C Kd.string w A0 l0.length l0) (hc0 : l0.length ≤ c0) (h : strings_Join.f l0 a1 = some r) :
    Calls Tryd.prog 37 #[.slice A0 l0.length c0, .string a1] w fun e w' => e = .returned (.string r) ∧ Below w.heap.size w w' := by
  unfold strings_Join.f at h
  split at h
  case isFalse => cases h
  rename_i hok
  obtain rfl := Option.some.inj h
  simp only [strings_Join.ok, Bool.and_eq_true, decide_eq_true_eq] at hok
  cases l0 with
  | nil => exact (Any.strings_Join_none Tryd.ly156 Tryd.bx A0 c0 a1 w).mono fun e w' ⟨he, hw⟩ => ⟨he, hw ▸ Below.refl _ _⟩
  | cons x t =>
    obtain ⟨ad, rfl, h0⟩ := at_string_nat hr0 0 (by simp)
    obtain ⟨b, o, s⟩ := ad
    have hs : s = none := by simpa [Addr.add] using World.cell?_spot h0
    subst hs
    refine Any.strings_Join Tryd.ly156 Tryd.bx b o c0 (x :: t) a1 w ?_ ?_ hok.1 hc0 hok.2
    · intro j y hy
      have hj : j < (x :: t).length := by
        rcases Nat.lt_or_ge j (x :: t).length with q | q
        · exact q
        · rw [List.getElem?_eq_none q] at hy; cases hy
      obtain ⟨ad', e, hc⟩ := at_string_nat hr0 j hj
      cases e
      rw [rdOf_nat _ _ _ hj] at hc
      rw [List.getElem?_eq_getElem hj] at hy
      obtain rfl := Option.some.inj hy
      have e2 : (⟨b, o, none⟩ : Addr).add j = ⟨b, o + j, none⟩ := by cases j <;> simp [Addr.add]
      rwa [e2] at hc
    · have := World.block_lt_of_cell? w _ h0
      simpa [Addr.add] using this
end Go.Proofs.YtgchidlombijbaaDoor.H
end
section
namespace Go.Proofs.YtgchidlombijbaaDoor.H
open Go.RowKit Go.Proofs.YtgchidlombijbaaDoorW.PrintWords Go.Proofs.YtgchidlombijbaaDoorW.PrintLast Go.Proofs.YtgchidlombijbaaDoorW.PrintMore
attribute [local go_sem] max2_int min2_int max_two min_two max_three min_three max_four min_four
set_option linter.unusedVariables false
set_option linter.unusedSimpArgs false
def grammar_Word.l0 : Nat → List ByteArray → List Int → Int → Int → List ByteArray → List ByteArray → List Int → List (S43) → List (S46) → Option (ByteArray)
 | 0, _, _, _, _, _, _, _, _, _ => none
 | k + 1, x5, x11, x12, x13, x164000, x164001, x164002, x164003, x164004 => if x13 < x12 then (if 0 ≤ x13 then (if x13 < (x11.length : Int) then ((grammar_Sym.f x164000 x164001 x164002 x164003 x164004 (rd x11 x13)).bind fun t168 => (if x5.length < 8796093022208 then (grammar_Word.l0 k (x5 ++ [t168]) x11 x12 (wrap64 (x13 + 1)) x164000 x164001 x164002 x164003 x164004) else (none))) else (none)) else (none)) else ((strings_Join.f x5 (⟨#[32]⟩ : ByteArray)).bind fun t172 => (some t172))
def grammar_Word.f (k : Nat) (l0_0 : List ByteArray) (l0_1 : List ByteArray) (l0_2 : List Int) (l0_3 : List (S43)) (l0_4 : List (S46)) (l1 : List Int) : Option (ByteArray) := if 0 ≤ (l1.length : Int) then (if ((l1.length : Int) : Int).toNat ≤ 17592186044416 then (grammar_Word.l0 k (List.replicate 0 (⟨#[]⟩ : ByteArray)) l1 (l1.length : Int) 0 l0_0 l0_1 l0_2 l0_3 l0_4) else (none)) else (none)
theorem grammar_Word.mono_l : ∀ k, (∀ y0 y1 y2 y3 y4 y5 y6 y7 y8, LeO (grammar_Word.l0 k y0 y1 y2 y3 y4 y5 y6 y7 y8) (grammar_Word.l0 (k + 1) y0 y1 y2 y3 y4 y5 y6 y7 y8))
 | 0 => fun _ _ _ _ _ _ _ _ _ r h => by simp [grammar_Word.l0] at h
 | k + 1 => by
  have ih0 := grammar_Word.mono_l k
  ·intro y0 y1 y2 y3 y4 y5 y6 y7 y8
   unfold grammar_Word.l0
   repeat' first
   | (with_reducible exact ih0 _ _ _ _ _ _ _ _ _)
   | (with_reducible exact LeO.refl _)
   | (with_reducible exact LeO.none _)
   | (with_reducible refine LeO.ite ?_ ?_)
   | (with_reducible refine LeO.bind ?_ (fun _ => ?_))
   | exact ih0 _ _ _ _ _ _ _ _ _
   | exact LeO.none _
   | refine LeO.ite ?_ ?_
   | refine LeO.bind ?_ (fun _ => ?_)
theorem grammar_Word.mono : ∀ a0 a1 a2 a3 a4 a5 k, LeO (grammar_Word.f k a0 a1 a2 a3 a4 a5) (grammar_Word.f (k + 1) a0 a1 a2 a3 a4 a5) := by
 (intro a0 a1 a2 a3 a4 a5 k); (have ih0 := grammar_Word.mono_l k); (unfold grammar_Word.f)
 repeat' first
   | (with_reducible exact ih0 _ _ _ _ _ _ _ _ _)
   | (with_reducible exact LeO.refl _)
   | (with_reducible exact LeO.none _)
   | (with_reducible refine LeO.ite ?_ ?_)
   | (with_reducible refine LeO.bind ?_ (fun _ => ?_))
   | exact ih0 _ _ _ _ _ _ _ _ _
   | exact LeO.none _
   | refine LeO.ite ?_ ?_
   | refine LeO.bind ?_ (fun _ => ?_)
set_option maxHeartbeats 8000000 in
set_option maxRecDepth 100000 in
theorem grammar_Word.calls (k : Nat) (A0_0 : Option Addr) (c0_0 : Nat) (l0_0 : List ByteArray) (A0_1 : Option Addr) (c0_1 : Nat) (l0_1 : List ByteArray) (A0_2 : Option Addr) (c0_2 : Nat) (l0_2 : List Int) (A0_3 : Option Addr) (c0_3 : Nat) (l0_3 : List (S43)) (A0_4 : Option Addr) (c0_4 : Nat) (l0_4 : List (S46)) (A1 : Option Addr) (c1 : Nat) (l1 : List Int) (r : ByteArray) (w : World) (hr0_0 : Kd.C Kd.string w A0_0 l0_0.length l0_0) (hc0_0 : l0_0.length ≤ c0_0) (hr0_1 : Kd.C Kd.string w A0_1 l0_1.length l0_1) (hc0_1 : l0_1.length ≤ c0_1) (hr0_2 : Kd.C (Kd.int .i64) w A0_2 l0_2.length l0_2) (hc0_2 : l0_2.length ≤ c0_2) (hr0_3 : Kd.C k43 w A0_3 l0_3.length l0_3) (hc0_3 : l0_3.length ≤ c0_3) (hr0_4 : Kd.C k46 w A0_4 l0_4.length l0_4) (hc0_4 : l0_4.length ≤ c0_4) (hr1 : Kd.C (Kd.int .i64) w A1 l1.length l1) (hc1 : l1.length ≤ c1) (h : grammar_Word.f k l0_0 l0_1 l0_2 l0_3 l0_4 l1 = some r) :
  Calls Tryd.prog 16 #[.agg #[.slice A0_0 l0_0.length c0_0, .slice A0_1 l0_1.length c0_1, .slice A0_2 l0_2.length c0_2, .slice A0_3 l0_3.length c0_3, .slice A0_4 l0_4.length c0_4], .slice A1 l1.length c1] w fun e w' => e = .returned (.string r) ∧ Below w.heap.size w w' := by
 (have hu27 := Tryd.underlying27); (have HR0_0 := qM hr0_0); (have HC0_0 := qM hc0_0); clear hr0_0 hc0_0; (have HR0_1 := qM hr0_1); (have HC0_1 := qM hc0_1); clear hr0_1 hc0_1; (have HR0_2 := qM hr0_2); (have HC0_2 := qM hc0_2); clear hr0_2 hc0_2; (have HR0_3 := qM hr0_3); (have HC0_3 := qM hc0_3); clear hr0_3 hc0_3; (have HR0_4 := qM hr0_4); (have HC0_4 := qM hc0_4); clear hr0_4 hc0_4; (have HR1 := qM hr1); (have HC1 := qM hc1); clear hr1 hc1; (have HB := qM (Below.refl w.heap.size w)); (have H : (if 0 ≤ (l1.length : Int) then (if ((l1.length : Int) : Int).toNat ≤ 17592186044416 then (grammar_Word.l0 k (List.replicate 0 (⟨#[]⟩ : ByteArray)) l1 (l1.length : Int) 0 l0_0 l0_1 l0_2 l0_3 l0_4) else (none)) else (none)) = some r := h); clear h; (by_cases c3 : 0 ≤ (l1.length : Int))
 ·rw [if_pos c3] at H
  (have c3b0 := eq_true c3); (have c3b1 : decide (0 ≤ (l1.length : Int)) = true := decide_eq_true c3); clear c3; (by_cases c4 : ((l1.length : Int) : Int).toNat ≤ 17592186044416)
  ·rw [if_pos c4] at H
   (have c4b0 := eq_true c4); (have c4b1 : decide (((l1.length : Int) : Int).toNat ≤ 17592186044416) = true := decide_eq_true c4); clear c4; (obtain ⟨y164, hy164⟩ : ∃ y_ : List ByteArray, y_ = (List.replicate 0 (⟨#[]⟩ : ByteArray)) := ⟨_, rfl⟩); (replace H : (grammar_Word.l0 k y164 l1 (l1.length : Int) 0 l0_0 l0_1 l0_2 l0_3 l0_4) = some r := by first | (rw [hy164]; with_reducible exact H) | (have H2_ := (Option.bind_some _ _).symm.trans H; rw [hy164]; with_reducible exact H2_) | (have H2_ := (Option.bind_some _ _).symm.trans H; with_reducible exact H2_) | with_reducible exact H | (rw [hy164]; exact H) | exact H); (have Ny164 := qM hy164); clear hy164; (have H' := qM H); clear H; (go_enter Tryd.func16, Tryd.ntmps16)
   go_wp2_with (first | ((with_reducible refine gate_dst (N := 2) rfl ?_); refine box_event ?hg (N := 2) ?hd (cs := #[.slice A0_0 l0_0.length c0_0, .slice A0_1 l0_1.length c0_1, .slice A0_2 l0_2.length c0_2, .slice A0_3 l0_3.length c0_3, .slice A0_4 l0_4.length c0_4]) (t := 27) ?hr ?_; (case hd => rfl); (case hg => rfl); (case hr => first | (go_simp; done) | (go_simp; rfl)); intro gb163 hg w5 hbox hb; have n0_ := qM (qP (by repeat (first | (with_reducible first | exact HB.out | apply qA | apply qN | apply qD) | exact HB.out)) hb); have n1_ := qM (hbox); have n2_ := qM ((by rw [hg]; exact (qZ (by repeat (first | (with_reducible first | exact HB.out | apply qA | apply qN | apply qD) | exact HB.out))) : w.heap.size ≤ gb163)); have n3_ := qM ((by rw [hg]; exact (qZ (by repeat (first | (with_reducible first | exact HB.out | apply qA | apply qN | apply qD) | exact HB.out))) : w.heap.size ≤ gb163)); clear HB; have HB := n0_; have BK163 := n1_; have GW163 := n2_; have GE163 := n3_; clear n0_ n1_ n2_ n3_; clear hb hbox hg) | ((with_reducible refine gate_dst (N := 10) rfl ?_); refine Kd.R_makecap Kd.string _ 9 rfl (N := 10) rfl 22 _ _ rfl (l1.length : Int) rfl rfl Tryd.underlying22 (.string ⟨#[]⟩) 16 info9 rfl (by decide) (by omega) (⟨#[]⟩ : ByteArray) (ok := fun _ => True) (okp := fun _ => True) rfl (fun _ hk => hk) trivial (qo (by first | (with_reducible assumption) | assumption)) (Nat.le_trans (Nat.mul_le_mul_right _ (qo (by first | (with_reducible assumption) | assumption) : (l1.length : Int).toNat ≤ 17592186044416)) (by omega)) (Below.refl _ _) (Nat.le_refl _) ?_; intro v165 w6 ho7 hb hg_ hnew_; clear hg_ hnew_; (first | rw [← Ny164.out] at ho7 | (simp only [Int.reduceToNat] at ho7; rw [← Ny164.out] at ho7)); have n0_ := qM (Kd.R_lower ho7 (qZ (by repeat (first | (with_reducible first | exact HB.out | apply qA | apply qN | apply qD | refine qS ?_ GE163.out) | exact HB.out)))); have n1_ := qM (qb (g := gb163) (o := .cells #[.slice A0_0 l0_0.length c0_0, .slice A0_1 l0_1.length c0_1, .slice A0_2 l0_2.length c0_2, .slice A0_3 l0_3.length c0_3, .slice A0_4 l0_4.length c0_4] 27 (0, 0)) (by (with_reducible repeat (first | refine qn ?_ _ | refine qd ?_ | refine qa ?_ _)); exact BK163.out) hb); have n2_ := qM (qP (by repeat (first | (with_reducible first | exact HB.out | apply qA | apply qN | apply qD | refine qS ?_ GE163.out) | exact HB.out)) hb); clear BK163; clear HB; have HO166 := n0_; have BK163 := n1_; have HB := n2_; clear n0_ n1_ n2_; clear hb ho7))
   go_loopg [5, 13] k (fun kq v5 v13 w' => ∃ (x5_1 : List ByteArray) (x13_1 : Int), v13 = .int .i64 x13_1 ∧ Aside0 (grammar_Word.l0 kq x5_1 l1 (l1.length : Int) x13_1 l0_0 l0_1 l0_2 l0_3 l0_4 = some r) ∧ Aside0 (kq ≤ k) ∧ Aside0 (Kd.R Kd.string 9 w' w.heap.size (fun _ => True) v5 x5_1) ∧ Aside0 (w'.heap[gb163]? = some (.cells #[(.slice A0_0 l0_0.length c0_0), (.slice A0_1 l0_1.length c0_1), (.slice A0_2 l0_2.length c0_2), (.slice A0_3 l0_3.length c0_3), (.slice A0_4 l0_4.length c0_4)] 27 (0, 0))) ∧ Aside0 (Below w.heap.size w w'))
   case atStart => exact ⟨(y164), (0), (by first | rfl | (simp; done) | (simp [*]; done)), H', ⟨Nat.le_refl _⟩, ⟨by (with_reducible repeat (first | apply Kd.R_alloc | apply Kd.R_drewN | apply Kd.R_drew)); exact HO166.out⟩, ⟨by (with_reducible repeat (first | refine qn ?_ _ | refine qd ?_ | refine qa ?_ _)); exact BK163.out⟩, ⟨by repeat (first | (with_reducible first | exact HB.out | apply qA | apply qN | apply qD | refine qS ?_ GE163.out) | exact HB.out)⟩⟩
   case round =>
    (clear H'); (try clear c1); (try clear p2); (try clear c3); (try clear c3b0); (try clear c3b1); (try clear c4); (try clear c4b0); (try clear c4b1); (obtain ⟨x5_1, x13_1, rfl, HA, HK1, HO_5, BK163, HB⟩ := hrel)
    cases gk with
    | zero => exact absurd HA.out (by simp [grammar_Word.l0])
    | succ k1 =>
     (have H := HA.out); clear HA; (simp only [grammar_Word.l0] at H); (by_cases c8 : x13_1 < (l1.length : Int))
     ·rw [if_pos c8] at H
      (have c8b0 : decide (x13_1 < (l1.length : Int)) = true := decide_eq_true c8); clear c8; (by_cases c9 : 0 ≤ x13_1)
      ·rw [if_pos c9] at H
       (have c9b0 : decide (0 ≤ x13_1) = true := decide_eq_true c9); clear c9; (by_cases c10 : x13_1 < (l1.length : Int))
       ·rw [if_pos c10] at H
        (have c10b0 : decide (x13_1 < (l1.length : Int)) = true := decide_eq_true c10); clear c10; (replace H := Option.bind_eq_some_iff.mp H); (obtain ⟨t168, A110, H⟩ := H); (replace H : (if x5_1.length < 8796093022208 then (grammar_Word.l0 k1 (x5_1 ++ [t168]) l1 (l1.length : Int) (wrap64 (x13_1 + 1)) l0_0 l0_1 l0_2 l0_3 l0_4) else (none)) = some r := H); (have A11 := qM A110); clear A110; (by_cases c12 : x5_1.length < 8796093022208)
        ·rw [if_pos c12] at H
         (have LMc12 := qM c12); clear c12; (obtain ⟨y169, hy169⟩ : ∃ y_ : List ByteArray, y_ = (x5_1 ++ [t168]) := ⟨_, rfl⟩); (replace H : (grammar_Word.l0 k1 y169 l1 (l1.length : Int) (wrap64 (x13_1 + 1)) l0_0 l0_1 l0_2 l0_3 l0_4) = some r := by first | (rw [hy169]; with_reducible exact H) | (have H2_ := (Option.bind_some _ _).symm.trans H; rw [hy169]; with_reducible exact H2_) | (have H2_ := (Option.bind_some _ _).symm.trans H; with_reducible exact H2_) | with_reducible exact H | (rw [hy169]; exact H) | exact H); (have Ny169 := qM hy169); clear hy169; (have H' := qM H); clear H; (have p167 : 0 ≤ (x13_1 : Int) := qo (by first | (with_reducible assumption) | assumption)); (have q167 : x13_1 < (l1.length : Int) := qo (by first | (with_reducible assumption) | assumption)); (obtain ⟨ad167, e167, hx167_0⟩ := Kd.at_int HR1.out x13_1 p167 q167)
         cases e167
         (replace hx167_0 := (HB.out.cell (qB w _ hx167_0)).trans hx167_0); (replace p167 := eq_true p167); (replace q167 := eq_true q167); (obtain ⟨hcz13_0, hcz13_1, hcz13_2, hcz13_3, hcz13_4, hfz13_0, hfz13_1, hfz13_2, hfz13_3, hfz13_4⟩ := bx5 BK163.out)
         go_wp2_with (first | ((with_reducible refine gate_callee (f := 12) rfl ?_); refine goesL_ (some 20) rfl rfl Tryd.func12 (by kernel_rfl) rfl #[.agg #[.slice A0_0 l0_0.length c0_0, .slice A0_1 l0_1.length c0_1, .slice A0_2 l0_2.length c0_2, .slice A0_3 l0_3.length c0_3, .slice A0_4 l0_4.length c0_4], .int .i64 (rd l1 x13_1)] rfl (by (try simp only [List.map_toArray, List.map_cons, List.map_nil]); first | done | rfl | (simp only [List.length_drop, List.length_take]; rfl)) ?_; (with_reducible refine (grammar_Sym.calls _ _ l0_0 _ _ l0_1 _ _ l0_2 _ _ l0_3 _ _ l0_4 (rd l1 x13_1) t168 _ ?side1 ?side2 ?side3 ?side4 ?side5 ?side6 ?side7 ?side8 ?side9 ?side10 A11.out).mono ?_); (case side1 => repeat (first | exact (Kd.C_below HR0_0.out HB.out) | (with_reducible refine Kd.C_alloc ?_ _) | (with_reducible refine Kd.C_drewN ?_ _) | (with_reducible refine Kd.C_drew ?_))); (case side2 => exact HC0_0.out); (case side3 => repeat (first | exact (Kd.C_below HR0_1.out HB.out) | (with_reducible refine Kd.C_alloc ?_ _) | (with_reducible refine Kd.C_drewN ?_ _) | (with_reducible refine Kd.C_drew ?_))); (case side4 => exact HC0_1.out); (case side5 => repeat (first | exact (Kd.C_below HR0_2.out HB.out) | (with_reducible refine Kd.C_alloc ?_ _) | (with_reducible refine Kd.C_drewN ?_ _) | (with_reducible refine Kd.C_drew ?_))); (case side6 => exact HC0_2.out); (case side7 => repeat (first | exact (Kd.C_below HR0_3.out HB.out) | (with_reducible refine Kd.C_alloc ?_ _) | (with_reducible refine Kd.C_drewN ?_ _) | (with_reducible refine Kd.C_drew ?_))); (case side8 => exact HC0_3.out); (case side9 => repeat (first | exact (Kd.C_below HR0_4.out HB.out) | (with_reducible refine Kd.C_alloc ?_ _) | (with_reducible refine Kd.C_drewN ?_ _) | (with_reducible refine Kd.C_drew ?_))); (case side10 => exact HC0_4.out); rintro e w14 ⟨rfl, hb⟩; refine ⟨_, rfl, ?_⟩; have n0_ := qM (Kd.R_below (by (with_reducible repeat (first | apply Kd.R_alloc | apply Kd.R_drewN | apply Kd.R_drew)); exact HO_5.out) hb); have n1_ := qM (qb (g := gb163) (o := .cells #[.slice A0_0 l0_0.length c0_0, .slice A0_1 l0_1.length c0_1, .slice A0_2 l0_2.length c0_2, .slice A0_3 l0_3.length c0_3, .slice A0_4 l0_4.length c0_4] 27 (0, 0)) (by (with_reducible repeat (first | refine qn ?_ _ | refine qd ?_ | refine qa ?_ _)); exact BK163.out) hb); have n2_ := qM (qP (by repeat (first | (with_reducible first | exact HB.out | apply qA | apply qN | apply qD | refine qS ?_ GE163.out) | exact HB.out)) hb); clear HO_5; clear BK163; clear HB; have HO_5 := n0_; have BK163 := n1_; have HB := n2_; clear n0_ n1_ n2_; (try clear hb); (try clear hb2); (try clear hk); (try clear hi)) | ((with_reducible refine gate_builtin (b := .append) (xs := #[.tmp 17, .tmp 21]) rfl ?_); at_builtin; refine Kd.R_append Kd.string (w0 := w) w.heap.size rfl (.tmp 17) (.tmp 21) 22 9 (.string ⟨#[]⟩) 16 rfl Tryd.underlying22 info9 rfl (by decide) (by omega) u5 x5_1 t168 [.string t168] (fun _ => True) (fun _ => False) rfl rfl ?aP (fun _ hk => hk.elim) ?aF ?aO ?aB ?aS ?aL ?_; (case aP => exact rfl); (case aB => exact (by repeat (first | (with_reducible first | exact HB.out | apply qA | apply qN | apply qD | refine qS ?_ GE163.out) | exact HB.out))); (case aF => exact (fun _ _ => trivial)); (case aO => exact (by (with_reducible repeat (first | apply Kd.R_alloc | apply Kd.R_drewN | apply Kd.R_drew)); exact HO_5.out)); (case aS => exact (qZ (by repeat (first | (with_reducible first | exact HB.out | apply qA | apply qN | apply qD | refine qS ?_ GE163.out) | exact HB.out)))); (case aL => have := LMc12.out; omega); intro v170 w15 ho hb hg hat; rw [← Ny169.out] at ho; have n0_ := qM (blk_grown (g := gb163) (o := .cells #[.slice A0_0 l0_0.length c0_0, .slice A0_1 l0_1.length c0_1, .slice A0_2 l0_2.length c0_2, .slice A0_3 l0_3.length c0_3, .slice A0_4 l0_4.length c0_4] 27 (0, 0)) (by (with_reducible repeat (first | refine qn ?_ _ | refine qd ?_ | refine qa ?_ _)); exact BK163.out) hg (Kd.R_ne HO_5.out BK163.out (by decide))); have n1_ := qM (hb); have n2_ := qM (ho); clear BK163; clear HB; clear HO_5; have BK163 := n0_; have HB := n1_; have HO171 := n2_; clear n0_ n1_ n2_; clear ho hb hg hat))
         go_roundg k1
         case measure => have := HK1.out; omega
         case rel => exact ⟨(y169), (wrap64 (x13_1 + 1)), (by first | rfl | (simp; done) | (simp [*]; done)), H', ⟨by have := HK1.out; omega⟩, ⟨by (with_reducible repeat (first | apply Kd.R_alloc | apply Kd.R_drewN | apply Kd.R_drew)); exact HO171.out⟩, ⟨by (with_reducible repeat (first | refine qn ?_ _ | refine qd ?_ | refine qa ?_ _)); exact BK163.out⟩, ⟨by repeat (first | (with_reducible first | exact HB.out | apply qA | apply qN | apply qD | refine qS ?_ GE163.out) | exact HB.out)⟩⟩
        ·rw [if_neg c12] at H
         exact absurd H (by simp)
       ·rw [if_neg c10] at H
        exact absurd H (by simp)
      ·rw [if_neg c9] at H
       exact absurd H (by simp)
     ·rw [if_neg c8] at H
      (have c8b0 : decide (x13_1 < (l1.length : Int)) = false := decide_eq_false c8); clear c8; (replace H := Option.bind_eq_some_iff.mp H); (obtain ⟨t172, A160, H⟩ := H); (replace H : (some t172) = some r := H); (have A16 := qM A160); clear A160; (obtain rfl := Option.some.inj H); (obtain ⟨Ao17, co17, eo17⟩ := Kd.R_slice HO_5.out); subst eo17
      go_wp2_with (first | ((with_reducible refine gate_callee (f := 37) rfl ?_); refine goesL_ (some 25) rfl rfl Tryd.func37 (by kernel_rfl) rfl #[.slice Ao17 x5_1.length co17, .string (⟨#[32]⟩ : ByteArray)] rfl (by (try simp only [List.map_toArray, List.map_cons, List.map_nil]); first | done | rfl | (simp only [List.length_drop, List.length_take]; rfl)) ?_; (with_reducible refine (strings_Join.calls _ _ x5_1 (⟨#[32]⟩ : ByteArray) t172 _ ?side1 ?side2 A16.out).mono ?_); (case side1 => repeat (first | exact (Kd.R_reads' HO_5.out).2.2 | (with_reducible refine Kd.C_alloc ?_ _) | (with_reducible refine Kd.C_drewN ?_ _) | (with_reducible refine Kd.C_drew ?_))); (case side2 => exact (Kd.R_reads' HO_5.out).2.1); rintro e w18 ⟨rfl, hb⟩; refine ⟨_, rfl, ?_⟩; have n0_ := qM (Kd.R_below (by (with_reducible repeat (first | apply Kd.R_alloc | apply Kd.R_drewN | apply Kd.R_drew)); exact HO_5.out) hb); have n1_ := qM (qb (g := gb163) (o := .cells #[.slice A0_0 l0_0.length c0_0, .slice A0_1 l0_1.length c0_1, .slice A0_2 l0_2.length c0_2, .slice A0_3 l0_3.length c0_3, .slice A0_4 l0_4.length c0_4] 27 (0, 0)) (by (with_reducible repeat (first | refine qn ?_ _ | refine qd ?_ | refine qa ?_ _)); exact BK163.out) hb); have n2_ := qM (qP (by repeat (first | (with_reducible first | exact HB.out | apply qA | apply qN | apply qD | refine qS ?_ GE163.out) | exact HB.out)) hb); clear HO_5; clear BK163; clear HB; have HO_5 := n0_; have BK163 := n1_; have HB := n2_; clear n0_ n1_ n2_; (try clear hb); (try clear hb2); (try clear hk); (try clear hi)))
      (go_ret); (exact ⟨by first | rfl | (simp [errW_none, errW_some] <;> rfl) | (simp [*, errW_none, errW_some] <;> rfl), by repeat (first | (with_reducible first | exact HB.out | apply qA | apply qN | apply qD | refine qS ?_ GE163.out) | exact HB.out)⟩)
  ·rw [if_neg c4] at H
   exact absurd H (by simp)
 ·rw [if_neg c3] at H
  exact absurd H (by simp)
end Go.Proofs.YtgchidlombijbaaDoor.H
end
section
namespace Go.Proofs.YtgchidlombijbaaDoor.H
open Go.RowKit Go.Proofs.YtgchidlombijbaaDoorW.PrintWords Go.Proofs.YtgchidlombijbaaDoorW.PrintLast Go.Proofs.YtgchidlombijbaaDoorW.PrintMore
open Go.Maps
set_option linter.unusedVariables false
set_option linter.unusedSimpArgs false
theorem below_grow_drewN (w : World) (q : Nat) (os : Array Obj) : Below w.heap.size w (Sort.grow (w.drewN q) os) :=
  ⟨rfl, rfl, rfl, by first | (simp [Sort.grow]; done) | (simp [Sort.grow]; omega), fun i hi => by
    show ((w.drewN q).heap ++ os)[i]? = _
    rw [Array.getElem?_append_left (by show i < w.heap.size; omega)]
    rfl⟩
theorem text_Show.calls (n : Int) (w : World) (h0 : -9223372036854775808 ≤ n) (h1 : n ≤ 9223372036854775807) (hgw : GW w) :
    Calls Tryd.prog 39 #[.int .i64 n] w fun e w' => e = .returned (.string ⟨(Lib.itoa n).toArray⟩) ∧ Below w.heap.size w w' := by
  have HGW := Aside0.mk hgw
  clear hgw
  go_enter Tryd.func39, Tryd.ntmps39
  go_wp2_with (go_at_call 57; refine (Any.strconv_Itoa Tryd.ly171M n h0 h1 _ HGW.out).mono ?_; rintro e w' ⟨rfl, k, os, rfl⟩)
  go_ret
  exact ⟨rfl, below_grow_drewN _ _ _⟩
end Go.Proofs.YtgchidlombijbaaDoor.H
end
section
namespace Go.Proofs.YtgchidlombijbaaDoor.H
open Go.RowKit Go.Proofs.YtgchidlombijbaaDoorW.PrintWords Go.Proofs.YtgchidlombijbaaDoorW.PrintLast Go.Proofs.YtgchidlombijbaaDoorW.PrintMore
open Go.Maps
set_option linter.unusedVariables false
set_option linter.unusedSimpArgs false
def bput (acc : List UInt8) (s : ByteArray) : Option (List UInt8) := if acc.length + s.size ≤ 140737488355328 then some (acc ++ s.data.toList) else none
theorem bput.some {acc o : List UInt8} {s : ByteArray} (h : bput acc s = some o) : acc.length + s.size ≤ 140737488355328 ∧ o = acc ++ s.data.toList := by
  unfold bput at h
  split at h
  · rename_i q; exact ⟨q, (Option.some.inj h).symm⟩
  · cases h
section
variable (l0_0 l0_1 : List ByteArray) (l0_2 : List Int) (l0_3 : List S43) (l0_4 : List S46)
def symsGo : List UInt8 → List Int → Option (List UInt8)
  | acc, [] => some acc
  | acc, s :: r => (grammar_Sym.f l0_0 l0_1 l0_2 l0_3 l0_4 s).bind fun t => (bput acc ((⟨#[32]⟩ : ByteArray) ++ t)).bind fun a => symsGo a r
def leftOf (x : S43) : Option ByteArray := if 0 ≤ x.f0 then grammar_Sym.f l0_0 l0_1 l0_2 l0_3 l0_4 (-1 - x.f0) else some ⟨#[63]⟩
def labelPut (acc : List UInt8) (x : S43) : Option (List UInt8) := if x.f3.data.toList = [] then some acc else bput acc ((⟨#[32, 35]⟩ : ByteArray) ++ x.f3)
def levelPut (acc : List UInt8) (x : S43) : Option (List UInt8) := if 0 < x.f4 then bput acc ((⟨#[32, 37]⟩ : ByteArray) ++ ⟨(Lib.itoa x.f4).toArray⟩) else some acc
def ruleGo (acc : List UInt8) (x : S43) : Option (List UInt8) :=
  (leftOf l0_0 l0_1 l0_2 l0_3 l0_4 x).bind fun left => (bput acc (left ++ (⟨#[32, 61]⟩ : ByteArray))).bind fun a => (symsGo l0_0 l0_1 l0_2 l0_3 l0_4 a x.f1).bind fun b => (labelPut b x).bind fun c => (levelPut c x).bind fun d => bput d ⟨#[10]⟩
def showGo : List UInt8 → List S43 → Option (List UInt8)
  | acc, [] => some acc
  | acc, x :: r => (ruleGo l0_0 l0_1 l0_2 l0_3 l0_4 acc x).bind fun a => showGo a r
def grammar_Show.ok : Bool := l0_3.all (fun x => decide (-9223372036854775808 ≤ x.f0) && decide (x.f0 ≤ 9223372036854775807) && decide (-9223372036854775808 ≤ x.f4) && decide (x.f4 ≤ 9223372036854775807))
def grammar_Show.f : Option ByteArray := if grammar_Show.ok l0_3 = true then (showGo l0_0 l0_1 l0_2 l0_3 l0_4 [] l0_3).map (fun l => ⟨l.toArray⟩) else none
end
theorem InG.sym {w : World} {A0 : Option Addr} {c0 : Nat} {l0 : List ByteArray} {A1 : Option Addr} {c1 : Nat} {l1 : List ByteArray} {A2 : Option Addr} {c2 : Nat} {l2 : List Int} {A3 : Option Addr} {c3 : Nat} {l3 : List S43} {A4 : Option Addr} {c4 : Nat} {l4 : List S46} {s : Int} {r : ByteArray} (G : InG w A0 c0 l0 A1 c1 l1 A2 c2 l2 A3 c3 l3 A4 c4 l4) (h : grammar_Sym.f l0 l1 l2 l3 l4 s = some r) :
    Calls Tryd.prog 12 #[.agg #[.slice A0 l0.length c0, .slice A1 l1.length c1, .slice A2 l2.length c2, .slice A3 l3.length c3, .slice A4 l4.length c4], .int .i64 s] w fun e w' => e = .returned (.string r) ∧ Below w.heap.size w w' :=
  grammar_Sym.calls _ _ _ _ _ _ _ _ _ _ _ _ _ _ _ s r w G.r0 G.h0 G.r1 G.h1 G.r2 G.h2 G.r3 G.h3 G.r4 G.h4 h
theorem size_append (a b : ByteArray) : (a ++ b).size = a.size + b.size := ByteArray.size_append
structure ShowS (w : World) (A0 : Option Addr) (c0 : Nat) (l0 : List ByteArray) (A1 : Option Addr) (c1 : Nat) (l1 : List ByteArray) (A2 : Option Addr) (c2 : Nat) (l2 : List Int) (A3 : Option Addr) (c3 : Nat) (l3 : List S43) (A4 : Option Addr) (c4 : Nat) (l4 : List S46) (b : Nat) (B1 : Option Addr) (d1 : Nat) (B2 : Option Addr) (d2 : Nat) (x : S43) (acc : List UInt8) (wc : World) : Prop where
  G : InG w A0 c0 l0 A1 c1 l1 A2 c2 l2 A3 c3 l3 A4 c4 l4
  W : GW w
  BK : GB wc w.heap.size A0 c0 l0 A1 c1 l1 A2 c2 l2 A3 c3 l3 A4 c4 l4
  HD : Bd (w.heap.size + 1) acc wc
  HX : wc.heap[b]? = some (.cells #[.int .i64 x.f0, .slice B1 x.f1.length d1, .slice B2 x.f2.length d2, .string x.f3, .int .i64 x.f4] 43 (0, 0))
  HB : Below w.heap.size w wc
  hb : w.heap.size + 1 < b
section
variable {w : World} {A0 : Option Addr} {c0 : Nat} {l0 : List ByteArray} {A1 : Option Addr} {c1 : Nat} {l1 : List ByteArray} {A2 : Option Addr} {c2 : Nat} {l2 : List Int} {A3 : Option Addr} {c3 : Nat} {l3 : List S43} {A4 : Option Addr} {c4 : Nat} {l4 : List S46} {b : Nat} {B1 : Option Addr} {d1 : Nat} {B2 : Option Addr} {d2 : Nat} {x : S43} {acc : List UInt8} {wc : World}
theorem ShowS.below {W : World} (S : ShowS w A0 c0 l0 A1 c1 l1 A2 c2 l2 A3 c3 l3 A4 c4 l4 b B1 d1 B2 d2 x acc wc) (h : Below wc.heap.size wc W) : ShowS w A0 c0 l0 A1 c1 l1 A2 c2 l2 A3 c3 l3 A4 c4 l4 b B1 d1 B2 d2 x acc W :=
  ⟨S.G, S.W, S.BK.below h, S.HD.below h, blk_below S.HX h, below_step S.HB h, S.hb⟩
theorem ShowS.write (S : ShowS w A0 c0 l0 A1 c1 l1 A2 c2 l2 A3 c3 l3 A4 c4 l4 b B1 d1 B2 d2 x acc wc) (s : ByteArray) (hlen : acc.length + s.size ≤ 140737488355328) :
    Calls Tryd.prog 38 #[.pointer (some ⟨w.heap.size + 1, 0, none⟩), .string s] wc fun e w' => e = .returned (.tuple #[.int .i64 s.size, .nilIface]) ∧ ShowS w A0 c0 l0 A1 c1 l1 A2 c2 l2 A3 c3 l3 A4 c4 l4 b B1 d1 B2 d2 x (acc ++ s.data.toList) w' := by
  refine (S.HD.write s hlen).mono ?_
  rintro e w' ⟨rfl, hd, hbl, hk⟩
  exact ⟨rfl, S.G, S.W, (hbl.block _ (Nat.lt_succ_self _)).trans S.BK, hd, keep_blk hk S.HX (Nat.ne_of_gt S.hb) (by decide), S.HB.trans (hbl.mono (Nat.le_succ _)), S.hb⟩
theorem ShowS.sym {s : Int} {r : ByteArray} (S : ShowS w A0 c0 l0 A1 c1 l1 A2 c2 l2 A3 c3 l3 A4 c4 l4 b B1 d1 B2 d2 x acc wc) (h : grammar_Sym.f l0 l1 l2 l3 l4 s = some r) :
    Calls Tryd.prog 12 #[.agg #[.slice A0 l0.length c0, .slice A1 l1.length c1, .slice A2 l2.length c2, .slice A3 l3.length c3, .slice A4 l4.length c4], .int .i64 s] wc fun e w' => e = .returned (.string r) ∧ ShowS w A0 c0 l0 A1 c1 l1 A2 c2 l2 A3 c3 l3 A4 c4 l4 b B1 d1 B2 d2 x acc w' := by
  refine ((S.G.below S.HB).sym h).mono ?_
  rintro e w' ⟨rfl, hb⟩
  exact ⟨rfl, S.below hb⟩
theorem ShowS.int (S : ShowS w A0 c0 l0 A1 c1 l1 A2 c2 l2 A3 c3 l3 A4 c4 l4 b B1 d1 B2 d2 x acc wc) {n : Int} (h0 : -9223372036854775808 ≤ n) (h1 : n ≤ 9223372036854775807) :
    Calls Tryd.prog 39 #[.int .i64 n] wc fun e w' => e = .returned (.string ⟨(Lib.itoa n).toArray⟩) ∧ ShowS w A0 c0 l0 A1 c1 l1 A2 c2 l2 A3 c3 l3 A4 c4 l4 b B1 d1 B2 d2 x acc w' := by
  refine (text_Show.calls n wc h0 h1 (S.W.below S.HB)).mono ?_
  rintro e w' ⟨rfl, hb⟩
  exact ⟨rfl, S.below hb⟩
theorem ShowS.cells (S : ShowS w A0 c0 l0 A1 c1 l1 A2 c2 l2 A3 c3 l3 A4 c4 l4 b B1 d1 B2 d2 x acc wc) :
    wc.cell? ⟨b, 0, none⟩ = some (.int .i64 x.f0) ∧ wc.cell? ⟨b, 1, none⟩ = some (.slice B1 x.f1.length d1) ∧ wc.cell? ⟨b, 2, none⟩ = some (.slice B2 x.f2.length d2) ∧ wc.cell? ⟨b, 3, none⟩ = some (.string x.f3) ∧ wc.cell? ⟨b, 4, none⟩ = some (.int .i64 x.f4) :=
  ⟨(blk_cell S.HX 0).trans rfl, (blk_cell S.HX 1).trans rfl, (blk_cell S.HX 2).trans rfl, (blk_cell S.HX 3).trans rfl, (blk_cell S.HX 4).trans rfl⟩
end
set_option maxHeartbeats 800000 in
set_option maxRecDepth 100000 in
theorem grammar_Show.calls (A0_0 : Option Addr) (c0_0 : Nat) (l0_0 : List ByteArray) (A0_1 : Option Addr) (c0_1 : Nat) (l0_1 : List ByteArray) (A0_2 : Option Addr) (c0_2 : Nat) (l0_2 : List Int) (A0_3 : Option Addr) (c0_3 : Nat) (l0_3 : List (S43)) (A0_4 : Option Addr) (c0_4 : Nat) (l0_4 : List (S46)) (r : ByteArray) (w : World) (hgw : GW w) (hr0_0 : Kd.C Kd.string w A0_0 l0_0.length l0_0) (hc0_0 : l0_0.length ≤ c0_0) (hr0_1 : Kd.C Kd.string w A0_1 l0_1.length l0_1) (hc0_1 : l0_1.length ≤ c0_1) (hr0_2 : Kd.C (Kd.int .i64) w A0_2 l0_2.length l0_2) (hc0_2 : l0_2.length ≤ c0_2) (hr0_3 : Kd.C k43 w A0_3 l0_3.length l0_3) (hc0_3 : l0_3.length ≤ c0_3) (hr0_4 : Kd.C k46 w A0_4 l0_4.length l0_4) (hc0_4 : l0_4.length ≤ c0_4) (h : grammar_Show.f l0_0 l0_1 l0_2 l0_3 l0_4 = some r) :
    Calls Tryd.prog 18 #[.agg #[.slice A0_0 l0_0.length c0_0, .slice A0_1 l0_1.length c0_1, .slice A0_2 l0_2.length c0_2, .slice A0_3 l0_3.length c0_3, .slice A0_4 l0_4.length c0_4]] w fun e w' => e = .returned (.string r) ∧ Below w.heap.size w w' := by
  have HG := Aside0.mk (InG.mk hr0_0 hc0_0 hr0_1 hc0_1 hr0_2 hc0_2 hr0_3 hc0_3 hr0_4 hc0_4)
  have HGW := Aside0.mk hgw
  clear hr0_0 hc0_0 hr0_1 hc0_1 hr0_2 hc0_2 hr0_3 hc0_3 hr0_4 hc0_4 hgw
  have hb3 : l0_3.length ≤ 9223372036854775807 := HG.out.r3.2.1
  have hu := Tryd.underlying27
  have hur := Tryd.underlying43
  unfold grammar_Show.f at h
  split at h
  case isFalse => cases h
  rename_i hok
  obtain ⟨out, hgo, rfl⟩ := Option.map_eq_some_iff.mp h
  have HK := Aside0.mk hok
  have HH := Aside0.mk hgo
  clear h hok hgo
  go_enter Tryd.func18, Tryd.ntmps18
  go_wp2_with fail
  go_loopw [12] (fun v12 wr => ∃ (i : Nat) (acc : List UInt8), v12 = .int .i64 i ∧ i ≤ l0_3.length ∧ Aside0 (showGo l0_0 l0_1 l0_2 l0_3 l0_4 acc (l0_3.drop i) = some out) ∧ Aside0 (GB wr w.heap.size A0_0 c0_0 l0_0 A0_1 c0_1 l0_1 A0_2 c0_2 l0_2 A0_3 c0_3 l0_3 A0_4 c0_4 l0_4) ∧ Aside0 (Bd (w.heap.size + 1) acc wr) ∧ Aside0 (Below w.heap.size w wr))
    (fun v12 _ => l0_3.length - (intOf v12).toNat)
  case atStart => exact ⟨0, [], rfl, Nat.zero_le _, HH, ⟨blk_alloc (GB.new w) _⟩, ⟨Bd.new1 w _⟩, ⟨below_alloc (below_alloc (Below.refl _ _) _) _⟩⟩
  case round =>
    clear HH
    obtain ⟨i, acc, rfl, hi, HH, BK, HD, HB⟩ := hrel
    have hsd : w.heap.size + 1 < wr.heap.size := HD.out.lt
    have hsz : w.heap.size < wr.heap.size := by omega
    have hne : ¬ (w.heap.size = wr.heap.size) := Nat.ne_of_lt hsz
    obtain ⟨hcz0, hcz1, hcz2, hcz3, hcz4⟩ := BK.out.cells
    by_cases hlt : i < l0_3.length
    · obtain ⟨ad, A1, c1, A2, c2, e0, hx0, hx1, hx2, hx3, hx4, hl1, hi1, hl2, hi2⟩ := at_T43 HG.out.r3 (i : Int) (by omega) (by omega)
      cases e0
      simp only [Int.toNat_natCast] at hx0 hx1 hx2 hx3 hx4
      replace hx0 := (HB.out.cell (World.block_lt_of_cell? w _ hx0)).trans hx0
      replace hx1 := (HB.out.cell (World.block_lt_of_cell? w _ hx1)).trans hx1
      replace hx2 := (HB.out.cell (World.block_lt_of_cell? w _ hx2)).trans hx2
      replace hx3 := (HB.out.cell (World.block_lt_of_cell? w _ hx3)).trans hx3
      replace hx4 := (HB.out.cell (World.block_lt_of_cell? w _ hx4)).trans hx4
      have h := HH.out
      have ex : l0_3[i] = rd_T43 l0_3 (i : Int) := by simp [rd_T43, List.getD_eq_getElem?_getD, List.getElem?_eq_getElem hlt]
      have hkx := HK.out
      unfold grammar_Show.ok at hkx
      simp only [List.all_eq_true] at hkx
      replace hkx := hkx (l0_3[i]) (List.getElem_mem hlt)
      rw [List.drop_eq_getElem_cons hlt, ex] at h
      rw [ex] at hkx
      simp only [showGo] at h
      obtain ⟨x, hx⟩ : ∃ x, x = rd_T43 l0_3 (i : Int) := ⟨_, rfl⟩
      rw [← hx] at h hkx hx0 hx1 hx2 hx3 hx4 hl1 hl2 hi1 hi2
      simp only [Bool.and_eq_true, decide_eq_true_eq] at hkx
      obtain ⟨⟨⟨k0, k1⟩, k2⟩, k3⟩ := hkx
      have HI1 := Aside0.mk hi1
      have HI2 := Aside0.mk hi2
      obtain ⟨a1, hru, hrest⟩ := Option.bind_eq_some_iff.mp h
      unfold ruleGo at hru
      obtain ⟨left, hleft, hru1⟩ := Option.bind_eq_some_iff.mp hru
      obtain ⟨a2, hput, hru2⟩ := Option.bind_eq_some_iff.mp hru1
      obtain ⟨a3, hsyms, hru3⟩ := Option.bind_eq_some_iff.mp hru2
      obtain ⟨a4, hlab, hru4⟩ := Option.bind_eq_some_iff.mp hru3
      obtain ⟨a5, hlev, hend⟩ := Option.bind_eq_some_iff.mp hru4
      have HLE := Aside0.mk hleft
      have HPU := Aside0.mk hput
      have HSY := Aside0.mk hsyms
      have HLA := Aside0.mk hlab
      have HLV := Aside0.mk hlev
      have HEN := Aside0.mk hend
      have HRE := Aside0.mk hrest
      clear hx ex h hi1 hi2 hru hru1 hru2 hru3 hru4 HH hleft hput hsyms hlab hlev hend hrest
      have HIR : Aside0 (Kd.C (Kd.int .i64) w A1 x.f1.length x.f1) := HI1
      have hlr : x.f1.length ≤ 9223372036854775807 := HI1.out.2.1
      obtain ⟨wo, rfl⟩ : ∃ wo : World, wo = wr := ⟨_, rfl⟩
      go_upto_if 18 with fail
      go_cut [6] (fun v6 wc => v6 = .string left ∧ Aside0 (ShowS w A0_0 c0_0 l0_0 A0_1 c0_1 l0_1 A0_2 c0_2 l0_2 (some ad) c0_3 l0_3 A0_4 c0_4 l0_4 wo.heap.size A1 c1 A2 c2 x acc wc))
      case first =>
        have h := HLE.out
        unfold leftOf at h
        have HS0 : Aside0 (ShowS w A0_0 c0_0 l0_0 A0_1 c0_1 l0_1 A0_2 c0_2 l0_2 (some ad) c0_3 l0_3 A0_4 c0_4 l0_4 wo.heap.size A1 c1 A2 c2 x acc (wo.alloc (.cells #[.int .i64 x.f0, .slice A1 x.f1.length c1, .slice A2 x.f2.length c2, .string x.f3, .int .i64 x.f4] 43 (0, 0)))) := ⟨⟨HG.out, HGW.out, blk_alloc BK.out _, HD.out.alloc _, blk_new wo _, below_alloc HB.out _, hsd⟩⟩
        by_cases hx0' : 0 ≤ x.f0
        · rw [if_pos hx0'] at h
          have q0 : decide (0 ≤ x.f0) = true := decide_eq_true hx0'
          have HS := Aside0.mk h
          clear h
          go_wp2_with fail
          refine (HS0.out.sym HS.out).mono ?_
          rintro e w1 ⟨rfl, hS⟩
          have HS1 := Aside0.mk hS
          clear hx0 hx1 hx2 hx3 hx4 hS hcz0 hcz1 hcz2 hcz3 hcz4
          go_wp2_with fail
          go_meet
          case rel => exact ⟨rfl, HS1⟩
        · rw [if_neg hx0'] at h
          have q0 : decide (0 ≤ x.f0) = false := decide_eq_false hx0'
          obtain rfl := Option.some.inj h
          clear h
          go_wp2_with fail
          go_meet
          case rel => exact ⟨rfl, HS0⟩
      case rest =>
        clear HLE BK HD HB hx0 hx1 hx2 hx3 hx4 hcz0 hcz1 hcz2 hcz3 hcz4
        obtain ⟨rfl, HS⟩ := hcut
        obtain ⟨hpl, rfl⟩ := bput.some HPU.out
        clear HPU
        have hq1 : left.size + 2 ≤ 9223372036854775807 := by rw [size_append] at hpl; have : (⟨#[32, 61]⟩ : ByteArray).size = 2 := rfl; omega
        have HPL := Aside0.mk hpl
        clear hpl
        go_wp2_with fail
        refine (HS.out.write _ HPL.out).mono ?_
        rintro e w2 ⟨rfl, hS⟩
        obtain ⟨hy0, hy1, hy2, hy3, hy4⟩ := hS.cells
        replace HS := Aside0.mk hS
        clear hS
        go_wp2_with fail
        go_loopw [30] (fun v30 wq => ∃ (j : Nat) (acc : List UInt8), v30 = .int .i64 j ∧ j ≤ x.f1.length ∧ Aside0 (symsGo l0_0 l0_1 l0_2 l0_3 l0_4 acc (x.f1.drop j) = some a3) ∧ Aside0 (ShowS w A0_0 c0_0 l0_0 A0_1 c0_1 l0_1 A0_2 c0_2 l0_2 (some ad) c0_3 l0_3 A0_4 c0_4 l0_4 wo.heap.size A1 c1 A2 c2 x acc wq))
          (fun v30 _ => x.f1.length - (intOf v30).toNat)
        case atStart => exact ⟨0, _, rfl, Nat.zero_le _, HSY, HS⟩
        case round =>
          clear HSY HS hy0 hy1 hy2 hy3 hy4
          obtain ⟨j, acc2, rfl, hj, HSY, HS⟩ := hrel
          obtain ⟨hcz0, hcz1, hcz2, hcz3, hcz4⟩ := HS.out.BK.cells
          by_cases hlt2 : j < x.f1.length
          · obtain ⟨ae, e0, hcell⟩ := Kd.at_int HIR.out (j : Int) (by omega) (by omega)
            cases e0
            rw [Int.toNat_natCast] at hcell
            replace hcell := (HS.out.HB.cell (World.block_lt_of_cell? w _ hcell)).trans hcell
            have h := HSY.out
            rw [List.drop_eq_getElem_cons hlt2, show x.f1[j] = rd x.f1 (j : Int) from by simp [rd, List.getD_eq_getElem?_getD, List.getElem?_eq_getElem hlt2]] at h
            simp only [symsGo] at h
            obtain ⟨t, ht, h⟩ := Option.bind_eq_some_iff.mp h
            obtain ⟨a4', hput, h⟩ := Option.bind_eq_some_iff.mp h
            obtain ⟨hpl, rfl⟩ := bput.some hput
            have HT := Aside0.mk ht
            have HSY2 := Aside0.mk h
            have HPL2 := Aside0.mk hpl
            clear h ht hpl hput HSY
            go_wp2_with fail
            refine (HS.out.sym HT.out).mono ?_
            rintro e w3 ⟨rfl, hS⟩
            replace HS := Aside0.mk hS
            clear hS hcell hcz0 hcz1 hcz2 hcz3 hcz4
            have hq2 : 1 + t.size ≤ 9223372036854775807 := by have := HPL2.out; rw [size_append] at this; have : (⟨#[32]⟩ : ByteArray).size = 1 := rfl; omega
            go_wp2_with fail
            refine (HS.out.write _ HPL2.out).mono ?_
            rintro e w4 ⟨rfl, hS⟩
            replace HS := Aside0.mk hS
            clear hS
            go_wp2_with fail
            go_roundw
            case rel => exact ⟨j + 1, _, by go_num, by omega, HSY2, HS⟩
            case measure => simp [intOf]; omega
          · have hie : j = x.f1.length := by omega
            have h := HSY.out
            rw [hie, List.drop_of_length_le (Nat.le_refl _)] at h
            obtain rfl : acc2 = a3 := Option.some.inj h
            clear h HSY
            subst hie
            obtain ⟨hy0, hy1, hy2, hy3, hy4⟩ := HS.out.cells
            go_upto_if 42 with fail
            go_cut [42] (fun v42 wc => Aside0 (ShowS w A0_0 c0_0 l0_0 A0_1 c0_1 l0_1 A0_2 c0_2 l0_2 (some ad) c0_3 l0_3 A0_4 c0_4 l0_4 wo.heap.size A1 c1 A2 c2 x a4 wc))
            case first =>
              have h := HLA.out
              unfold labelPut at h
              by_cases hlb : x.f3.data.toList = []
              · rw [if_pos hlb] at h
                obtain rfl := Option.some.inj h
                clear h
                have hq4 : x.f3.toList.isEmpty = true := by rw [Lib.toList_data, hlb]; rfl
                clear hlb
                rw [hq4]
                go_wp2_with fail
                go_meet
                case rel => exact HS
              · rw [if_neg hlb] at h
                obtain ⟨hpl, rfl⟩ := bput.some h
                have HPL2 := Aside0.mk hpl
                clear h hpl
                have hq4 : x.f3.toList.isEmpty = false := by rw [Lib.toList_data]; cases hc : x.f3.data.toList with | nil => exact absurd hc hlb | cons _ _ => rfl
                clear hlb
                have hq2 : 2 + x.f3.size ≤ 9223372036854775807 := by have := HPL2.out; rw [size_append] at this; have : (⟨#[32, 35]⟩ : ByteArray).size = 2 := rfl; omega
                go_wp2_with fail
                refine (HS.out.write _ HPL2.out).mono ?_
                rintro e w4 ⟨rfl, hS⟩
                replace HS := Aside0.mk hS
                clear hS
                go_wp2_with fail
                go_meet
                case rel => exact HS
                exact absurd ‹(!x.f3.toList.isEmpty) = false› (by rw [hq4]; decide)
            case rest =>
              clear HS hy0 hy1 hy2 hy3 hy4 HLA
              have HS := hcut
              clear hcut
              obtain ⟨hy0, hy1, hy2, hy3, hy4⟩ := HS.out.cells
              go_upto_if 49 with fail
              go_cut [49] (fun v49 wc => Aside0 (ShowS w A0_0 c0_0 l0_0 A0_1 c0_1 l0_1 A0_2 c0_2 l0_2 (some ad) c0_3 l0_3 A0_4 c0_4 l0_4 wo.heap.size A1 c1 A2 c2 x a5 wc))
              case first =>
                have h := HLV.out
                unfold levelPut at h
                by_cases hlb : 0 < x.f4
                · rw [if_pos hlb] at h
                  obtain ⟨hpl, rfl⟩ := bput.some h
                  have HPL2 := Aside0.mk hpl
                  clear h hpl
                  have hq4 : decide (0 < x.f4) = true := decide_eq_true hlb
                  have hq2 : 2 + (⟨(Lib.itoa x.f4).toArray⟩ : ByteArray).size ≤ 9223372036854775807 := by have := HPL2.out; rw [size_append] at this; have : (⟨#[32, 37]⟩ : ByteArray).size = 2 := rfl; omega
                  obtain ⟨t, ht⟩ : ∃ t : ByteArray, t = ⟨(Lib.itoa x.f4).toArray⟩ := ⟨_, rfl⟩
                  rw [← ht] at hq2 HPL2
                  go_wp2_with fail
                  refine (HS.out.int k2 k3).mono ?_
                  rintro e w4 ⟨rfl, hS⟩
                  replace HS := Aside0.mk hS
                  have HT := Aside0.mk ht
                  clear hS ht
                  rw [← HT.out]
                  go_wp2_with fail
                  refine (HS.out.write _ HPL2.out).mono ?_
                  rintro e w4 ⟨rfl, hS⟩
                  replace HS := Aside0.mk hS
                  clear hS
                  go_wp2_with fail
                  go_meet
                  case rel => exact ⟨HT.out ▸ HS.out⟩
                · rw [if_neg hlb] at h
                  obtain rfl := Option.some.inj h
                  clear h
                  have hq4 : decide (0 < x.f4) = false := decide_eq_false hlb
                  go_wp2_with fail
                  go_meet
                  case rel => exact HS
              case rest =>
                clear HS hy0 hy1 hy2 hy3 hy4 HLV
                have HS := hcut
                clear hcut
                obtain ⟨hpl, rfl⟩ := bput.some HEN.out
                clear HEN
                have HPL2 := Aside0.mk hpl
                clear hpl
                go_wp2_with fail
                refine (HS.out.write _ HPL2.out).mono ?_
                rintro e w4 ⟨rfl, hS⟩
                replace HS := Aside0.mk hS
                clear hS
                have HS1 := Aside0.mk HS.out.BK
                have HS2 := Aside0.mk HS.out.HD
                have HS3 := Aside0.mk HS.out.HB
                go_wp2_with fail
                go_roundw
                case rel => exact ⟨i + 1, _, by go_num, by omega, HRE, HS1, HS2, HS3⟩
                case measure => simp [intOf]; omega
    · have hie : i = l0_3.length := by omega
      have h := HH.out
      rw [hie, List.drop_of_length_le (Nat.le_refl _)] at h
      obtain rfl : acc = out := Option.some.inj h
      clear h HH
      go_wp2_with fail
      refine (HD.out.string).mono ?_
      rintro e w4 ⟨rfl, hb⟩
      have HB2 := Aside0.mk (HB.out.trans (hb.mono (Nat.le_succ _)))
      clear hb
      go_wp2_with fail
      go_ret
      exact ⟨rfl, HB2.out⟩
end Go.Proofs.YtgchidlombijbaaDoor.H
end
section
namespace Go.Proofs.YtgchidlombijbaaDoor.H
open Go.RowKit Go.Proofs.YtgchidlombijbaaDoorW.PrintWords Go.Proofs.YtgchidlombijbaaDoorW.PrintLast Go.Proofs.YtgchidlombijbaaDoorW.PrintMore
attribute [local go_sem] max2_int min2_int max_two min_two max_three min_three max_four min_four
set_option linter.unusedVariables false
set_option linter.unusedSimpArgs false
def arboristlaw15_knows.f (k : Nat)  : Option (Bool) := (arboristlaw15_Two.f).bind fun bt200 => ((grammar_Find.f bt200.1 bt200.2.1 bt200.2.2.1 bt200.2.2.2.1 bt200.2.2.2.2 (⟨#[115]⟩ : ByteArray)).bind fun bt216 => ((grammar_Right.f k bt200.1 bt200.2.1 bt200.2.2.1 bt200.2.2.2.1 bt200.2.2.2.2).bind fun t218 => (if t218 = 0 then ((grammar_Show.f bt200.1 bt200.2.1 bt200.2.2.1 bt200.2.2.2.1 bt200.2.2.2.2).bind fun t219 => (if t219.toList = ([36, 115, 116, 97, 114, 116, 32, 61, 32, 115, 10, 115, 32, 61, 32, 34, 97, 34, 32, 115, 10, 115, 32, 61, 10] : List UInt8) then (if bt216.1 = (-2) then (if bt216.2 = true then ((grammar_Word.f k bt200.1 bt200.2.1 bt200.2.2.1 bt200.2.2.2.1 bt200.2.2.2.2 (([2, (-2), 9] : List Int))).bind fun t223 => (if t223.toList = ([34, 97, 34, 32, 115, 32, 63] : List UInt8) then ((arboristlaw15_Two.f).bind fun bt224 => ((grammar_Same.f k bt200.1 bt200.2.1 bt200.2.2.1 bt200.2.2.2.1 bt200.2.2.2.2 bt224.1 bt224.2.1 bt224.2.2.1 bt224.2.2.2.1 bt224.2.2.2.2).bind fun t239 => (if t239 = true then ((grammar_Same.f k bt200.1 bt200.2.1 bt200.2.2.1 bt200.2.2.2.1 bt200.2.2.2.2 ([] : List ByteArray) ([] : List ByteArray) ([] : List Int) ([] : List (S43)) ([] : List (S46))).bind fun t240 => (if t240 = true then (none) else ((grammar_Of.f k bt200.1 bt200.2.1 bt200.2.2.1 bt200.2.2.2.1 bt200.2.2.2.2 1).bind fun t241 => ((arboristref15_Ints.f k t241 (([1, 2] : List Int))).bind fun t247 => (some t247))))) else (none)))) else (none))) else (none)) else (none)) else (none))) else (none))))
theorem arboristlaw15_knows.mono : ∀ k, LeO (arboristlaw15_knows.f k ) (arboristlaw15_knows.f (k + 1) ) := by
 (intro  k); (unfold arboristlaw15_knows.f)
 repeat' first
   | (with_reducible exact arboristref15_Ints.mono _ _ _)
   | (with_reducible exact grammar_Of.mono _ _ _ _ _ _ _)
   | (with_reducible exact grammar_Right.mono _ _ _ _ _ _)
   | (with_reducible exact grammar_Same.mono _ _ _ _ _ _ _ _ _ _ _)
   | (with_reducible exact grammar_Word.mono _ _ _ _ _ _ _)
   | (with_reducible exact LeO.refl _)
   | (with_reducible exact LeO.none _)
   | (with_reducible refine LeO.ite ?_ ?_)
   | (with_reducible refine LeO.bind ?_ (fun _ => ?_))
   | exact arboristref15_Ints.mono _ _ _
   | exact grammar_Of.mono _ _ _ _ _ _ _
   | exact grammar_Right.mono _ _ _ _ _ _
   | exact grammar_Same.mono _ _ _ _ _ _ _ _ _ _ _
   | exact grammar_Word.mono _ _ _ _ _ _ _
   | exact LeO.none _
   | refine LeO.ite ?_ ?_
   | refine LeO.bind ?_ (fun _ => ?_)
def arboristlaw15_knows.T3 : Bool × List (List Nat × List Nat) := (true, [([], []), ([0], [0]), ([1], [1]), ([2, 1], [2]), ([3], [3]), ([4, 3, 3], [3, 4]), ([5, 3], [3, 5]), ([3, 6], [3, 6]), ([7, 5], [7]), ([8], [8]), ([9, 8], [8, 9]), ([8, 10], [8, 10]), ([11, 8], [11]), ([12], [12]), ([12, 13], [12, 13]), ([14, 12], [14]), ([15], [15]), ([15], [15]), ([16, 17, 15, 15], [15, 16, 17]), ([18, 15], [15, 18]), ([15, 19], [15, 19]), ([20, 18], [20]), ([21], [21]), ([21, 21], [21]), ([22, 23, 23, 21], [21, 22, 23]), ([21, 24], [21, 24]), ([25, 24], [25]), ([26], [26]), ([26], [26]), ([27, 28, 26, 26], [26, 27, 28]), ([29, 26], [26, 29]), ([26, 30], [26, 30]), ([31, 29], [31]), ([32], [32]), ([33, 32, 32], [32, 33]), ([32], [32]), ([34, 35, 34, 32], [32, 34, 35]), ([32, 36], [32, 36]), ([37, 36, 0, 1, 2, 3, 4, 5, 6, 7, 8, 9, 10, 11, 12, 13, 14, 15, 16, 17, 18, 19, 20, 21, 22, 23, 24, 25, 26, 27, 28, 29, 30, 31, 32, 33, 34, 35, 36, 37], [37])])
def arboristlaw15_knows.B3 : List Nat := [0, 1, 3, 7, 15, 31, 63, 127, 255, 511, 1023, 2047, 4095, 8191, 16383, 32767, 65535, 65535, 262143, 524287, 1048575, 2097151, 4194303, 4194303, 16777215, 33554431, 67108863, 134217727, 134217727, 536870911, 1073741823, 2147483647, 4294967295, 8589934591, 17179869183, 8589934591, 68719476735, 137438953471, 274877906943]
theorem arboristlaw15_knows.tab3 : rtab .any (opsOf Tryd.f9 3) = arboristlaw15_knows.T3 := by kernel_rfl
theorem arboristlaw15_knows.bits3 : waitsOk arboristlaw15_knows.T3.2 arboristlaw15_knows.B3 = true := by kernel_rfl
set_option maxHeartbeats 8000000 in
set_option maxRecDepth 100000 in
theorem arboristlaw15_knows.calls (k : Nat)  (r : Bool) (w : World) (hgw : GW w) (h : arboristlaw15_knows.f k  = some r) :
  Calls Tryd.prog 9 #[] w fun e w' => e = .returned (.bool r) ∧ Below w.heap.size w w' := by
 (have HGW := qM hgw); clear hgw; (have hu27 := Tryd.underlying27); (have HB := qM (Below.refl w.heap.size w))
 have H : ((arboristlaw15_Two.f).bind fun bt200 => ((grammar_Find.f bt200.1 bt200.2.1 bt200.2.2.1 bt200.2.2.2.1 bt200.2.2.2.2 (⟨#[115]⟩ : ByteArray)).bind fun bt216 => ((grammar_Right.f k bt200.1 bt200.2.1 bt200.2.2.1 bt200.2.2.2.1 bt200.2.2.2.2).bind fun t218 => (if t218 = 0 then ((grammar_Show.f bt200.1 bt200.2.1 bt200.2.2.1 bt200.2.2.2.1 bt200.2.2.2.2).bind fun t219 => (if t219.toList = ([36, 115, 116, 97, 114, 116, 32, 61, 32, 115, 10, 115, 32, 61, 32, 34, 97, 34, 32, 115, 10, 115, 32, 61, 10] : List UInt8) then (if bt216.1 = (-2) then (if bt216.2 = true then ((grammar_Word.f k bt200.1 bt200.2.1 bt200.2.2.1 bt200.2.2.2.1 bt200.2.2.2.2 (([2, (-2), 9] : List Int))).bind fun t223 => (if t223.toList = ([34, 97, 34, 32, 115, 32, 63] : List UInt8) then ((arboristlaw15_Two.f).bind fun bt224 => ((grammar_Same.f k bt200.1 bt200.2.1 bt200.2.2.1 bt200.2.2.2.1 bt200.2.2.2.2 bt224.1 bt224.2.1 bt224.2.2.1 bt224.2.2.2.1 bt224.2.2.2.2).bind fun t239 => (if t239 = true then ((grammar_Same.f k bt200.1 bt200.2.1 bt200.2.2.1 bt200.2.2.2.1 bt200.2.2.2.2 ([] : List ByteArray) ([] : List ByteArray) ([] : List Int) ([] : List (S43)) ([] : List (S46))).bind fun t240 => (if t240 = true then (none) else ((grammar_Of.f k bt200.1 bt200.2.1 bt200.2.2.1 bt200.2.2.2.1 bt200.2.2.2.2 1).bind fun t241 => ((arboristref15_Ints.f k t241 (([1, 2] : List Int))).bind fun t247 => (some t247))))) else (none)))) else (none))) else (none)) else (none)) else (none))) else (none))))) = some r := h
 clear h; (replace H := Option.bind_eq_some_iff.mp H); (obtain ⟨⟨t200, t203, t206, t209, t212⟩, A10, H⟩ := H)
 replace H : ((grammar_Find.f t200 t203 t206 t209 t212 (⟨#[115]⟩ : ByteArray)).bind fun bt216 => ((grammar_Right.f k t200 t203 t206 t209 t212).bind fun t218 => (if t218 = 0 then ((grammar_Show.f t200 t203 t206 t209 t212).bind fun t219 => (if t219.toList = ([36, 115, 116, 97, 114, 116, 32, 61, 32, 115, 10, 115, 32, 61, 32, 34, 97, 34, 32, 115, 10, 115, 32, 61, 10] : List UInt8) then (if bt216.1 = (-2) then (if bt216.2 = true then ((grammar_Word.f k t200 t203 t206 t209 t212 (([2, (-2), 9] : List Int))).bind fun t223 => (if t223.toList = ([34, 97, 34, 32, 115, 32, 63] : List UInt8) then ((arboristlaw15_Two.f).bind fun bt224 => ((grammar_Same.f k t200 t203 t206 t209 t212 bt224.1 bt224.2.1 bt224.2.2.1 bt224.2.2.2.1 bt224.2.2.2.2).bind fun t239 => (if t239 = true then ((grammar_Same.f k t200 t203 t206 t209 t212 ([] : List ByteArray) ([] : List ByteArray) ([] : List Int) ([] : List (S43)) ([] : List (S46))).bind fun t240 => (if t240 = true then (none) else ((grammar_Of.f k t200 t203 t206 t209 t212 1).bind fun t241 => ((arboristref15_Ints.f k t241 (([1, 2] : List Int))).bind fun t247 => (some t247))))) else (none)))) else (none))) else (none)) else (none)) else (none))) else (none)))) = some r := H
 (have A1 := qM A10); clear A10; (replace H := Option.bind_eq_some_iff.mp H); (obtain ⟨⟨t216, t217⟩, A20, H⟩ := H)
 replace H : ((grammar_Right.f k t200 t203 t206 t209 t212).bind fun t218 => (if t218 = 0 then ((grammar_Show.f t200 t203 t206 t209 t212).bind fun t219 => (if t219.toList = ([36, 115, 116, 97, 114, 116, 32, 61, 32, 115, 10, 115, 32, 61, 32, 34, 97, 34, 32, 115, 10, 115, 32, 61, 10] : List UInt8) then (if t216 = (-2) then (if t217 = true then ((grammar_Word.f k t200 t203 t206 t209 t212 (([2, (-2), 9] : List Int))).bind fun t223 => (if t223.toList = ([34, 97, 34, 32, 115, 32, 63] : List UInt8) then ((arboristlaw15_Two.f).bind fun bt224 => ((grammar_Same.f k t200 t203 t206 t209 t212 bt224.1 bt224.2.1 bt224.2.2.1 bt224.2.2.2.1 bt224.2.2.2.2).bind fun t239 => (if t239 = true then ((grammar_Same.f k t200 t203 t206 t209 t212 ([] : List ByteArray) ([] : List ByteArray) ([] : List Int) ([] : List (S43)) ([] : List (S46))).bind fun t240 => (if t240 = true then (none) else ((grammar_Of.f k t200 t203 t206 t209 t212 1).bind fun t241 => ((arboristref15_Ints.f k t241 (([1, 2] : List Int))).bind fun t247 => (some t247))))) else (none)))) else (none))) else (none)) else (none)) else (none))) else (none))) = some r := H
 (have A2 := qM A20); clear A20; (replace H := Option.bind_eq_some_iff.mp H); (obtain ⟨t218, A30, H⟩ := H)
 replace H : (if t218 = 0 then ((grammar_Show.f t200 t203 t206 t209 t212).bind fun t219 => (if t219.toList = ([36, 115, 116, 97, 114, 116, 32, 61, 32, 115, 10, 115, 32, 61, 32, 34, 97, 34, 32, 115, 10, 115, 32, 61, 10] : List UInt8) then (if t216 = (-2) then (if t217 = true then ((grammar_Word.f k t200 t203 t206 t209 t212 (([2, (-2), 9] : List Int))).bind fun t223 => (if t223.toList = ([34, 97, 34, 32, 115, 32, 63] : List UInt8) then ((arboristlaw15_Two.f).bind fun bt224 => ((grammar_Same.f k t200 t203 t206 t209 t212 bt224.1 bt224.2.1 bt224.2.2.1 bt224.2.2.2.1 bt224.2.2.2.2).bind fun t239 => (if t239 = true then ((grammar_Same.f k t200 t203 t206 t209 t212 ([] : List ByteArray) ([] : List ByteArray) ([] : List Int) ([] : List (S43)) ([] : List (S46))).bind fun t240 => (if t240 = true then (none) else ((grammar_Of.f k t200 t203 t206 t209 t212 1).bind fun t241 => ((arboristref15_Ints.f k t241 (([1, 2] : List Int))).bind fun t247 => (some t247))))) else (none)))) else (none))) else (none)) else (none)) else (none))) else (none)) = some r := H
 (have A3 := qM A30); clear A30; (by_cases c4 : t218 = 0)
 ·rw [if_pos c4] at H
  (have c4b0 : (t218 == 0) = true := beq_iff_eq.mpr c4); (have c4b1 : (t218 != 0) = false := bne_eq_false_iff_eq.mpr c4); clear c4; (replace H := Option.bind_eq_some_iff.mp H); (obtain ⟨t219, A50, H⟩ := H)
  replace H : (if t219.toList = ([36, 115, 116, 97, 114, 116, 32, 61, 32, 115, 10, 115, 32, 61, 32, 34, 97, 34, 32, 115, 10, 115, 32, 61, 10] : List UInt8) then (if t216 = (-2) then (if t217 = true then ((grammar_Word.f k t200 t203 t206 t209 t212 (([2, (-2), 9] : List Int))).bind fun t223 => (if t223.toList = ([34, 97, 34, 32, 115, 32, 63] : List UInt8) then ((arboristlaw15_Two.f).bind fun bt224 => ((grammar_Same.f k t200 t203 t206 t209 t212 bt224.1 bt224.2.1 bt224.2.2.1 bt224.2.2.2.1 bt224.2.2.2.2).bind fun t239 => (if t239 = true then ((grammar_Same.f k t200 t203 t206 t209 t212 ([] : List ByteArray) ([] : List ByteArray) ([] : List Int) ([] : List (S43)) ([] : List (S46))).bind fun t240 => (if t240 = true then (none) else ((grammar_Of.f k t200 t203 t206 t209 t212 1).bind fun t241 => ((arboristref15_Ints.f k t241 (([1, 2] : List Int))).bind fun t247 => (some t247))))) else (none)))) else (none))) else (none)) else (none)) else (none)) = some r := H
  (have A5 := qM A50); clear A50; (by_cases c6 : t219.toList = ([36, 115, 116, 97, 114, 116, 32, 61, 32, 115, 10, 115, 32, 61, 32, 34, 97, 34, 32, 115, 10, 115, 32, 61, 10] : List UInt8))
  ·rw [if_pos c6] at H
   (have c6b0 : (t219.toList == ([36, 115, 116, 97, 114, 116, 32, 61, 32, 115, 10, 115, 32, 61, 32, 34, 97, 34, 32, 115, 10, 115, 32, 61, 10] : List UInt8)) = true := beq_iff_eq.mpr c6); (have c6b1 : (t219.toList != ([36, 115, 116, 97, 114, 116, 32, 61, 32, 115, 10, 115, 32, 61, 32, 34, 97, 34, 32, 115, 10, 115, 32, 61, 10] : List UInt8)) = false := bne_eq_false_iff_eq.mpr c6); clear c6; (by_cases c7 : t216 = (-2))
   ·rw [if_pos c7] at H
    (have c7b0 : (t216 == (-2)) = true := beq_iff_eq.mpr c7); (have c7b1 : (t216 != (-2)) = false := bne_eq_false_iff_eq.mpr c7); clear c7; (by_cases c8 : t217 = true)
    ·subst c8
     have H1 : ((grammar_Word.f k t200 t203 t206 t209 t212 (([2, (-2), 9] : List Int))).bind fun t223 => (if t223.toList = ([34, 97, 34, 32, 115, 32, 63] : List UInt8) then ((arboristlaw15_Two.f).bind fun bt224 => ((grammar_Same.f k t200 t203 t206 t209 t212 bt224.1 bt224.2.1 bt224.2.2.1 bt224.2.2.2.1 bt224.2.2.2.2).bind fun t239 => (if t239 = true then ((grammar_Same.f k t200 t203 t206 t209 t212 ([] : List ByteArray) ([] : List ByteArray) ([] : List Int) ([] : List (S43)) ([] : List (S46))).bind fun t240 => (if t240 = true then (none) else ((grammar_Of.f k t200 t203 t206 t209 t212 1).bind fun t241 => ((arboristref15_Ints.f k t241 (([1, 2] : List Int))).bind fun t247 => (some t247))))) else (none)))) else (none))) = some r := by rw [if_pos rfl] at H; exact H
     clear H; (have H := H1); clear H1; (obtain ⟨y220, hy220⟩ : ∃ y_ : List Int, y_ = (([2, (-2), 9] : List Int)) := ⟨_, rfl⟩)
     replace H : ((grammar_Word.f k t200 t203 t206 t209 t212 y220).bind fun t223 => (if t223.toList = ([34, 97, 34, 32, 115, 32, 63] : List UInt8) then ((arboristlaw15_Two.f).bind fun bt224 => ((grammar_Same.f k t200 t203 t206 t209 t212 bt224.1 bt224.2.1 bt224.2.2.1 bt224.2.2.2.1 bt224.2.2.2.2).bind fun t239 => (if t239 = true then ((grammar_Same.f k t200 t203 t206 t209 t212 ([] : List ByteArray) ([] : List ByteArray) ([] : List Int) ([] : List (S43)) ([] : List (S46))).bind fun t240 => (if t240 = true then (none) else ((grammar_Of.f k t200 t203 t206 t209 t212 1).bind fun t241 => ((arboristref15_Ints.f k t241 (([1, 2] : List Int))).bind fun t247 => (some t247))))) else (none)))) else (none))) = some r := by first | (rw [hy220]; with_reducible exact H) | (have H2_ := (Option.bind_some _ _).symm.trans H; rw [hy220]; with_reducible exact H2_) | (have H2_ := (Option.bind_some _ _).symm.trans H; with_reducible exact H2_) | with_reducible exact H | (rw [hy220]; exact H) | exact H
     (have Ny220 := qM hy220); clear hy220; (replace H := Option.bind_eq_some_iff.mp H); (obtain ⟨t223, A90, H⟩ := H); (replace H : (if t223.toList = ([34, 97, 34, 32, 115, 32, 63] : List UInt8) then ((arboristlaw15_Two.f).bind fun bt224 => ((grammar_Same.f k t200 t203 t206 t209 t212 bt224.1 bt224.2.1 bt224.2.2.1 bt224.2.2.2.1 bt224.2.2.2.2).bind fun t239 => (if t239 = true then ((grammar_Same.f k t200 t203 t206 t209 t212 ([] : List ByteArray) ([] : List ByteArray) ([] : List Int) ([] : List (S43)) ([] : List (S46))).bind fun t240 => (if t240 = true then (none) else ((grammar_Of.f k t200 t203 t206 t209 t212 1).bind fun t241 => ((arboristref15_Ints.f k t241 (([1, 2] : List Int))).bind fun t247 => (some t247))))) else (none)))) else (none)) = some r := H); (have A9 := qM A90); clear A90; (by_cases c10 : t223.toList = ([34, 97, 34, 32, 115, 32, 63] : List UInt8))
     ·rw [if_pos c10] at H
      (have c10b0 : (t223.toList == ([34, 97, 34, 32, 115, 32, 63] : List UInt8)) = true := beq_iff_eq.mpr c10); (have c10b1 : (t223.toList != ([34, 97, 34, 32, 115, 32, 63] : List UInt8)) = false := bne_eq_false_iff_eq.mpr c10); clear c10; (replace H := Option.bind_eq_some_iff.mp H); (obtain ⟨⟨t224, t227, t230, t233, t236⟩, A110, H⟩ := H); (replace H : ((grammar_Same.f k t200 t203 t206 t209 t212 t224 t227 t230 t233 t236).bind fun t239 => (if t239 = true then ((grammar_Same.f k t200 t203 t206 t209 t212 ([] : List ByteArray) ([] : List ByteArray) ([] : List Int) ([] : List (S43)) ([] : List (S46))).bind fun t240 => (if t240 = true then (none) else ((grammar_Of.f k t200 t203 t206 t209 t212 1).bind fun t241 => ((arboristref15_Ints.f k t241 (([1, 2] : List Int))).bind fun t247 => (some t247))))) else (none))) = some r := H); (have A11 := qM A110); clear A110; (replace H := Option.bind_eq_some_iff.mp H); (obtain ⟨t239, A120, H⟩ := H); (replace H : (if t239 = true then ((grammar_Same.f k t200 t203 t206 t209 t212 ([] : List ByteArray) ([] : List ByteArray) ([] : List Int) ([] : List (S43)) ([] : List (S46))).bind fun t240 => (if t240 = true then (none) else ((grammar_Of.f k t200 t203 t206 t209 t212 1).bind fun t241 => ((arboristref15_Ints.f k t241 (([1, 2] : List Int))).bind fun t247 => (some t247))))) else (none)) = some r := H); (have A12 := qM A120); clear A120; (by_cases c13 : t239 = true)
      ·subst c13
       (have H1 : ((grammar_Same.f k t200 t203 t206 t209 t212 ([] : List ByteArray) ([] : List ByteArray) ([] : List Int) ([] : List (S43)) ([] : List (S46))).bind fun t240 => (if t240 = true then (none) else ((grammar_Of.f k t200 t203 t206 t209 t212 1).bind fun t241 => ((arboristref15_Ints.f k t241 (([1, 2] : List Int))).bind fun t247 => (some t247))))) = some r := by rw [if_pos rfl] at H; exact H); clear H; (have H := H1); clear H1; (replace H := Option.bind_eq_some_iff.mp H); (obtain ⟨t240, A140, H⟩ := H); (replace H : (if t240 = true then (none) else ((grammar_Of.f k t200 t203 t206 t209 t212 1).bind fun t241 => ((arboristref15_Ints.f k t241 (([1, 2] : List Int))).bind fun t247 => (some t247)))) = some r := H); (have A14 := qM A140); clear A140; (by_cases c15 : t240 = true)
       ·subst c15
        (have H1 : (none) = some r := by rw [if_pos rfl] at H; exact H); clear H; (have H := H1); clear H1; (exact absurd H (by simp))
       ·replace c15 := Bool.eq_false_iff.mpr c15
        subst c15; (have H1 : ((grammar_Of.f k t200 t203 t206 t209 t212 1).bind fun t241 => ((arboristref15_Ints.f k t241 (([1, 2] : List Int))).bind fun t247 => (some t247))) = some r := by rw [if_neg (show ¬ (false = true) by decide)] at H; exact H); clear H; (have H := H1); clear H1; (replace H := Option.bind_eq_some_iff.mp H); (obtain ⟨t241, A160, H⟩ := H); (replace H : ((arboristref15_Ints.f k t241 (([1, 2] : List Int))).bind fun t247 => (some t247)) = some r := H); (have A16 := qM A160); clear A160; (obtain ⟨y244, hy244⟩ : ∃ y_ : List Int, y_ = (([1, 2] : List Int)) := ⟨_, rfl⟩); (replace H : ((arboristref15_Ints.f k t241 y244).bind fun t247 => (some t247)) = some r := by first | (rw [hy244]; with_reducible exact H) | (have H2_ := (Option.bind_some _ _).symm.trans H; rw [hy244]; with_reducible exact H2_) | (have H2_ := (Option.bind_some _ _).symm.trans H; with_reducible exact H2_) | with_reducible exact H | (rw [hy244]; exact H) | exact H); (have Ny244 := qM hy244); clear hy244; (replace H := Option.bind_eq_some_iff.mp H); (obtain ⟨t247, A170, H⟩ := H); (replace H : (some t247) = some r := H); (have A17 := qM A170); clear A170; (obtain rfl := Option.some.inj H); (go_enter Tryd.func9, Tryd.ntmps9)
        try go_wp2_with (first | ((with_reducible refine gate_callee (f := 23) rfl ?_); refine goesL_ (some 4) rfl rfl Tryd.func23 (by kernel_rfl) rfl #[] rfl (by (try simp only [List.map_toArray, List.map_cons, List.map_nil]); first | done | rfl | (simp only [List.length_drop, List.length_take]; rfl)) ?_; (with_reducible refine (arboristlaw15_Two.calls  t200 t203 t206 t209 t212 _ A1.out).mono ?_); rintro e w18 ⟨v201, v204, v207, v210, v213, rfl, ho0, ho1, ho2, ho3, ho4, hb⟩; refine ⟨_, rfl, ?_⟩; have n0_ := qM (Kd.R_lower (Kd.R_mono (ok' := fun k_ => some k_ ≠ (v204 : Value).ownBlock) ho0 (fun _ hk_ => hk_.2)) (qZ (by repeat (first | (with_reducible first | exact HB.out | apply qA | apply qN | apply qD) | exact HB.out)))); have n1_ := qM (Kd.R_lower (Kd.R_mono (ok' := fun k_ => some k_ ≠ (v201 : Value).ownBlock) ho1 (fun _ hk_ => hk_.2)) (qZ (by repeat (first | (with_reducible first | exact HB.out | apply qA | apply qN | apply qD) | exact HB.out)))); have n2_ := qM (Kd.R_lower (Kd.R_mono (ok' := fun k_ => True) ho2 (fun _ hk_ => trivial)) (qZ (by repeat (first | (with_reducible first | exact HB.out | apply qA | apply qN | apply qD) | exact HB.out)))); have n3_ := qM (Kd.N_lower (Kd.N_mono (ok' := fun k_ => some k_ ≠ (v201 : Value).ownBlock ∧ some k_ ≠ (v204 : Value).ownBlock ∧ some k_ ≠ (v207 : Value).ownBlock ∧ some k_ ≠ (v213 : Value).ownBlock) ho3 (fun k_ hk_ => ⟨hk_.2.1, hk_.2.2.1, hk_.2.2.2.1, hk_.2.2.2.2⟩)) (qZ (by repeat (first | (with_reducible first | exact HB.out | apply qA | apply qN | apply qD) | exact HB.out)))); have n4_ := qM (Kd.N_lower (Kd.N_mono (ok' := fun k_ => some k_ ≠ (v201 : Value).ownBlock ∧ some k_ ≠ (v204 : Value).ownBlock ∧ some k_ ≠ (v207 : Value).ownBlock ∧ some k_ ≠ (v210 : Value).ownBlock) ho4 (fun k_ hk_ => ⟨hk_.2.1, hk_.2.2.1, hk_.2.2.2.1, hk_.2.2.2.2⟩)) (qZ (by repeat (first | (with_reducible first | exact HB.out | apply qA | apply qN | apply qD) | exact HB.out)))); have n5_ := qM (qP (by repeat (first | (with_reducible first | exact HB.out | apply qA | apply qN | apply qD) | exact HB.out)) hb); clear HB; have HO202 := n0_; have HO205 := n1_; have HO208 := n2_; have HO211 := n3_; have HO214 := n4_; have HB := n5_; clear n0_ n1_ n2_ n3_ n4_ n5_; (try clear hb); (try clear hb2); (try clear hk); (try clear hi); (try clear ho0); (try clear ho1); (try clear ho2); (try clear ho3); (try clear ho4)) | ((with_reducible refine gate_dst (N := 1) rfl ?_); (try (refine gate_guard (by rfl) ?_; dsimp only)); refine box_event ?hg (N := 1) ?hd (cs := #[.slice none 0 0, .slice none 0 0, .slice none 0 0, .slice none 0 0, .slice none 0 0]) (t := 27) ?hr ?_; (case hd => rfl); (case hg => rfl); (case hr => first | (go_simp; done) | (go_simp; rfl)); intro gb215 hg w19 hbox hb; have n0_ := qM (Kd.R_below (by (with_reducible repeat (first | apply Kd.R_alloc | apply Kd.R_drewN | apply Kd.R_drew)); exact HO202.out) hb); have n1_ := qM (Kd.R_below (by (with_reducible repeat (first | apply Kd.R_alloc | apply Kd.R_drewN | apply Kd.R_drew)); exact HO205.out) hb); have n2_ := qM (Kd.R_below (by (with_reducible repeat (first | apply Kd.R_alloc | apply Kd.R_drewN | apply Kd.R_drew)); exact HO208.out) hb); have n3_ := qM (Kd.N_below (Kd.N_elderB (by (with_reducible repeat (first | apply Kd.N_alloc | apply Kd.N_drewN | apply Kd.N_drew)); exact HO211.out) gb215 (Nat.le_of_eq hg.symm)) hb); have n4_ := qM (Kd.N_below (Kd.N_elderB (by (with_reducible repeat (first | apply Kd.N_alloc | apply Kd.N_drewN | apply Kd.N_drew)); exact HO214.out) gb215 (Nat.le_of_eq hg.symm)) hb); have n5_ := qM (qP (by repeat (first | (with_reducible first | exact HB.out | apply qA | apply qN | apply qD) | exact HB.out)) hb); have n6_ := qM (hbox); have n7_ := qM ((by rw [hg]; exact (qZ (by repeat (first | (with_reducible first | exact HB.out | apply qA | apply qN | apply qD) | exact HB.out))) : w.heap.size ≤ gb215)); have n8_ := qM ((by rw [hg]; exact (qZ (by repeat (first | (with_reducible first | exact HB.out | apply qA | apply qN | apply qD) | exact HB.out))) : w.heap.size ≤ gb215)); clear HO202; clear HO205; clear HO208; clear HO211; clear HO214; clear HB; have HO202 := n0_; have HO205 := n1_; have HO208 := n2_; have HO211 := n3_; have HO214 := n4_; have HB := n5_; have BK215 := n6_; have GW215 := n7_; have GE215 := n8_; clear n0_ n1_ n2_ n3_ n4_ n5_ n6_ n7_ n8_; clear hb hbox hg; obtain ⟨Ao20, co20, eo20⟩ := Kd.R_slice HO202.out; subst eo20; obtain ⟨hcz21_0, hcz21_1, hcz21_2, hcz21_3, hcz21_4, hfz21_0, hfz21_1, hfz21_2, hfz21_3, hfz21_4⟩ := bx5 BK215.out; obtain ⟨Ao22, co22, eo22⟩ := Kd.R_slice HO205.out; subst eo22; obtain ⟨Ao23, co23, eo23⟩ := Kd.R_slice HO208.out; subst eo23; obtain ⟨Ao24, co24, eo24⟩ := Kd.N_slice HO211.out; subst eo24; obtain ⟨Ao25, co25, eo25⟩ := Kd.N_slice HO214.out; subst eo25) | ((with_reducible refine gate_callee (f := 14) rfl ?_); refine goesL_ (some 7) rfl rfl Tryd.func14 (by kernel_rfl) rfl #[.agg #[.slice Ao20 t200.length co20, .slice Ao22 t203.length co22, .slice Ao23 t206.length co23, .slice Ao24 t209.length co24, .slice Ao25 t212.length co25], .string (⟨#[115]⟩ : ByteArray)] rfl (by (try simp only [List.map_toArray, List.map_cons, List.map_nil]); first | done | rfl | (simp only [List.length_drop, List.length_take]; rfl)) ?_; (with_reducible refine (grammar_Find.calls _ _ t200 _ _ t203 _ _ t206 _ _ t209 _ _ t212 (⟨#[115]⟩ : ByteArray) t216 true _ ?side1 ?side2 ?side3 ?side4 ?side5 ?side6 ?side7 ?side8 ?side9 ?side10 A2.out).mono ?_); (case side1 => refine (Kd.R_reads' (e := 9) (base := w.heap.size) (ok := fun k_ => some k_ ≠ (.slice Ao22 t203.length co22 : Value).ownBlock) (n := t200.length) (c := co20) ?_).2.2; exact (by (with_reducible repeat (first | apply Kd.R_alloc | apply Kd.R_drewN | apply Kd.R_drew)); exact (Kd.R_mono (Kd.R_far (p := ⟨gb215, 4, none⟩) (Kd.R_far (p := ⟨gb215, 3, none⟩) (Kd.R_far (p := ⟨gb215, 2, none⟩) (Kd.R_far (p := ⟨gb215, 1, none⟩) (Kd.R_far (p := ⟨gb215, 0, none⟩) (Kd.R_types HO202.out BK215.out (by decide)) (fun _ hk => hk.2) (.slice Ao20 t200.length co20)) (fun _ hk => hk.2) (.slice Ao22 t203.length co22)) (fun _ hk => hk.2) (.slice Ao23 t206.length co23)) (fun _ hk => hk.2) (.slice Ao24 t209.length co24)) (fun _ hk => hk.2) (.slice Ao25 t212.length co25)) (fun _ h_ => h_.1)))); (case side2 => exact (Kd.R_reads' HO202.out).2.1); (case side3 => refine (Kd.R_reads' (e := 9) (base := w.heap.size) (ok := fun k_ => some k_ ≠ (.slice Ao20 t200.length co20 : Value).ownBlock) (n := t203.length) (c := co22) ?_).2.2; exact (by (with_reducible repeat (first | apply Kd.R_alloc | apply Kd.R_drewN | apply Kd.R_drew)); exact (Kd.R_mono (Kd.R_far (p := ⟨gb215, 4, none⟩) (Kd.R_far (p := ⟨gb215, 3, none⟩) (Kd.R_far (p := ⟨gb215, 2, none⟩) (Kd.R_far (p := ⟨gb215, 1, none⟩) (Kd.R_far (p := ⟨gb215, 0, none⟩) (Kd.R_types HO205.out BK215.out (by decide)) (fun _ hk => hk.2) (.slice Ao20 t200.length co20)) (fun _ hk => hk.2) (.slice Ao22 t203.length co22)) (fun _ hk => hk.2) (.slice Ao23 t206.length co23)) (fun _ hk => hk.2) (.slice Ao24 t209.length co24)) (fun _ hk => hk.2) (.slice Ao25 t212.length co25)) (fun _ h_ => h_.1)))); (case side4 => exact (Kd.R_reads' HO205.out).2.1); (case side5 => refine (Kd.R_reads' (e := 66) (base := w.heap.size) (ok := fun k_ => True) (n := t206.length) (c := co23) ?_).2.2; exact (by (with_reducible repeat (first | apply Kd.R_alloc | apply Kd.R_drewN | apply Kd.R_drew)); exact (Kd.R_mono (Kd.R_far (p := ⟨gb215, 4, none⟩) (Kd.R_far (p := ⟨gb215, 3, none⟩) (Kd.R_far (p := ⟨gb215, 2, none⟩) (Kd.R_far (p := ⟨gb215, 1, none⟩) (Kd.R_far (p := ⟨gb215, 0, none⟩) (Kd.R_types HO208.out BK215.out (by decide)) (fun _ hk => hk.2) (.slice Ao20 t200.length co20)) (fun _ hk => hk.2) (.slice Ao22 t203.length co22)) (fun _ hk => hk.2) (.slice Ao23 t206.length co23)) (fun _ hk => hk.2) (.slice Ao24 t209.length co24)) (fun _ hk => hk.2) (.slice Ao25 t212.length co25)) (fun _ h_ => h_.1)))); (case side6 => exact (Kd.R_reads' HO208.out).2.1); (case side7 => refine (Kd.N_reads' (e := 43) (base := w.heap.size) (ok := fun k_ => ((some k_ ≠ (.slice Ao20 t200.length co20 : Value).ownBlock ∧ (some k_ ≠ (.slice Ao22 t203.length co22 : Value).ownBlock ∧ (some k_ ≠ (.slice Ao23 t206.length co23 : Value).ownBlock ∧ some k_ ≠ (.slice Ao25 t212.length co25 : Value).ownBlock))) ∧ k_ ≠ gb215)) (n := t209.length) (c := co24) ?_).2.2; exact (by (with_reducible repeat (first | apply Kd.N_alloc | apply Kd.N_drewN | apply Kd.N_drew)); exact (Kd.N_mono (Kd.N_far (p := ⟨gb215, 4, none⟩) (Kd.N_far (p := ⟨gb215, 3, none⟩) (Kd.N_far (p := ⟨gb215, 2, none⟩) (Kd.N_far (p := ⟨gb215, 1, none⟩) (Kd.N_far (p := ⟨gb215, 0, none⟩) (Kd.N_mono HO211.out (fun k_ hk => (⟨hk, hk.2⟩ : _ ∧ k_ ≠ gb215))) (fun _ hk => hk.2) (.slice Ao20 t200.length co20)) (fun _ hk => hk.2) (.slice Ao22 t203.length co22)) (fun _ hk => hk.2) (.slice Ao23 t206.length co23)) (fun _ hk => hk.2) (.slice Ao24 t209.length co24)) (fun _ hk => hk.2) (.slice Ao25 t212.length co25)) (fun _ h_ => h_.1)))); (case side8 => exact (Kd.N_reads' HO211.out).2.1); (case side9 => refine (Kd.N_reads' (e := 46) (base := w.heap.size) (ok := fun k_ => ((some k_ ≠ (.slice Ao20 t200.length co20 : Value).ownBlock ∧ (some k_ ≠ (.slice Ao22 t203.length co22 : Value).ownBlock ∧ (some k_ ≠ (.slice Ao23 t206.length co23 : Value).ownBlock ∧ some k_ ≠ (.slice Ao24 t209.length co24 : Value).ownBlock))) ∧ k_ ≠ gb215)) (n := t212.length) (c := co25) ?_).2.2; exact (by (with_reducible repeat (first | apply Kd.N_alloc | apply Kd.N_drewN | apply Kd.N_drew)); exact (Kd.N_mono (Kd.N_far (p := ⟨gb215, 4, none⟩) (Kd.N_far (p := ⟨gb215, 3, none⟩) (Kd.N_far (p := ⟨gb215, 2, none⟩) (Kd.N_far (p := ⟨gb215, 1, none⟩) (Kd.N_far (p := ⟨gb215, 0, none⟩) (Kd.N_mono HO214.out (fun k_ hk => (⟨hk, hk.2⟩ : _ ∧ k_ ≠ gb215))) (fun _ hk => hk.2) (.slice Ao20 t200.length co20)) (fun _ hk => hk.2) (.slice Ao22 t203.length co22)) (fun _ hk => hk.2) (.slice Ao23 t206.length co23)) (fun _ hk => hk.2) (.slice Ao24 t209.length co24)) (fun _ hk => hk.2) (.slice Ao25 t212.length co25)) (fun _ h_ => h_.1)))); (case side10 => exact (Kd.N_reads' HO214.out).2.1); rintro e w26 ⟨rfl, hb⟩; refine ⟨_, rfl, ?_⟩; have n0_ := qM (Kd.R_below (by (with_reducible repeat (first | apply Kd.R_alloc | apply Kd.R_drewN | apply Kd.R_drew)); exact (Kd.R_mono (Kd.R_far (p := ⟨gb215, 4, none⟩) (Kd.R_far (p := ⟨gb215, 3, none⟩) (Kd.R_far (p := ⟨gb215, 2, none⟩) (Kd.R_far (p := ⟨gb215, 1, none⟩) (Kd.R_far (p := ⟨gb215, 0, none⟩) (Kd.R_types HO202.out BK215.out (by decide)) (fun _ hk => hk.2) (.slice Ao20 t200.length co20)) (fun _ hk => hk.2) (.slice Ao22 t203.length co22)) (fun _ hk => hk.2) (.slice Ao23 t206.length co23)) (fun _ hk => hk.2) (.slice Ao24 t209.length co24)) (fun _ hk => hk.2) (.slice Ao25 t212.length co25)) (fun _ h_ => h_.1))) hb); have n1_ := qM (Kd.R_below (by (with_reducible repeat (first | apply Kd.R_alloc | apply Kd.R_drewN | apply Kd.R_drew)); exact (Kd.R_mono (Kd.R_far (p := ⟨gb215, 4, none⟩) (Kd.R_far (p := ⟨gb215, 3, none⟩) (Kd.R_far (p := ⟨gb215, 2, none⟩) (Kd.R_far (p := ⟨gb215, 1, none⟩) (Kd.R_far (p := ⟨gb215, 0, none⟩) (Kd.R_types HO205.out BK215.out (by decide)) (fun _ hk => hk.2) (.slice Ao20 t200.length co20)) (fun _ hk => hk.2) (.slice Ao22 t203.length co22)) (fun _ hk => hk.2) (.slice Ao23 t206.length co23)) (fun _ hk => hk.2) (.slice Ao24 t209.length co24)) (fun _ hk => hk.2) (.slice Ao25 t212.length co25)) (fun _ h_ => h_.1))) hb); have n2_ := qM (Kd.R_below (by (with_reducible repeat (first | apply Kd.R_alloc | apply Kd.R_drewN | apply Kd.R_drew)); exact (Kd.R_mono (Kd.R_far (p := ⟨gb215, 4, none⟩) (Kd.R_far (p := ⟨gb215, 3, none⟩) (Kd.R_far (p := ⟨gb215, 2, none⟩) (Kd.R_far (p := ⟨gb215, 1, none⟩) (Kd.R_far (p := ⟨gb215, 0, none⟩) (Kd.R_types HO208.out BK215.out (by decide)) (fun _ hk => hk.2) (.slice Ao20 t200.length co20)) (fun _ hk => hk.2) (.slice Ao22 t203.length co22)) (fun _ hk => hk.2) (.slice Ao23 t206.length co23)) (fun _ hk => hk.2) (.slice Ao24 t209.length co24)) (fun _ hk => hk.2) (.slice Ao25 t212.length co25)) (fun _ h_ => h_.1))) hb); have n3_ := qM (Kd.N_below (by (with_reducible repeat (first | apply Kd.N_alloc | apply Kd.N_drewN | apply Kd.N_drew)); exact (Kd.N_mono (Kd.N_far (p := ⟨gb215, 4, none⟩) (Kd.N_far (p := ⟨gb215, 3, none⟩) (Kd.N_far (p := ⟨gb215, 2, none⟩) (Kd.N_far (p := ⟨gb215, 1, none⟩) (Kd.N_far (p := ⟨gb215, 0, none⟩) (Kd.N_mono HO211.out (fun k_ hk => (⟨hk, hk.2⟩ : _ ∧ k_ ≠ gb215))) (fun _ hk => hk.2) (.slice Ao20 t200.length co20)) (fun _ hk => hk.2) (.slice Ao22 t203.length co22)) (fun _ hk => hk.2) (.slice Ao23 t206.length co23)) (fun _ hk => hk.2) (.slice Ao24 t209.length co24)) (fun _ hk => hk.2) (.slice Ao25 t212.length co25)) (fun _ h_ => h_.1))) hb); have n4_ := qM (Kd.N_below (by (with_reducible repeat (first | apply Kd.N_alloc | apply Kd.N_drewN | apply Kd.N_drew)); exact (Kd.N_mono (Kd.N_far (p := ⟨gb215, 4, none⟩) (Kd.N_far (p := ⟨gb215, 3, none⟩) (Kd.N_far (p := ⟨gb215, 2, none⟩) (Kd.N_far (p := ⟨gb215, 1, none⟩) (Kd.N_far (p := ⟨gb215, 0, none⟩) (Kd.N_mono HO214.out (fun k_ hk => (⟨hk, hk.2⟩ : _ ∧ k_ ≠ gb215))) (fun _ hk => hk.2) (.slice Ao20 t200.length co20)) (fun _ hk => hk.2) (.slice Ao22 t203.length co22)) (fun _ hk => hk.2) (.slice Ao23 t206.length co23)) (fun _ hk => hk.2) (.slice Ao24 t209.length co24)) (fun _ hk => hk.2) (.slice Ao25 t212.length co25)) (fun _ h_ => h_.1))) hb); have n5_ := qM (qb (g := gb215) (o := .cells #[.slice Ao20 t200.length co20, .slice Ao22 t203.length co22, .slice Ao23 t206.length co23, .slice Ao24 t209.length co24, .slice Ao25 t212.length co25] 27 (0, 0)) (by (with_reducible repeat (first | refine qn ?_ _ | refine qd ?_ | refine qa ?_ _)); refine blk_put (cs := #[.slice Ao20 t200.length co20, .slice Ao22 t203.length co22, .slice Ao23 t206.length co23, .slice Ao24 t209.length co24, .slice none 0 0]) ?_ 4 _ rfl; (with_reducible repeat (first | refine qn ?_ _ | refine qd ?_ | refine qa ?_ _)); refine blk_put (cs := #[.slice Ao20 t200.length co20, .slice Ao22 t203.length co22, .slice Ao23 t206.length co23, .slice none 0 0, .slice none 0 0]) ?_ 3 _ rfl; (with_reducible repeat (first | refine qn ?_ _ | refine qd ?_ | refine qa ?_ _)); refine blk_put (cs := #[.slice Ao20 t200.length co20, .slice Ao22 t203.length co22, .slice none 0 0, .slice none 0 0, .slice none 0 0]) ?_ 2 _ rfl; (with_reducible repeat (first | refine qn ?_ _ | refine qd ?_ | refine qa ?_ _)); refine blk_put (cs := #[.slice Ao20 t200.length co20, .slice none 0 0, .slice none 0 0, .slice none 0 0, .slice none 0 0]) ?_ 1 _ rfl; (with_reducible repeat (first | refine qn ?_ _ | refine qd ?_ | refine qa ?_ _)); refine blk_put (cs := #[.slice none 0 0, .slice none 0 0, .slice none 0 0, .slice none 0 0, .slice none 0 0]) ?_ 0 _ rfl; (with_reducible repeat (first | refine qn ?_ _ | refine qd ?_ | refine qa ?_ _)); exact BK215.out) hb); have n6_ := qM (qP (by repeat (first | (with_reducible first | exact HB.out | apply qA | apply qN | apply qD | refine qS ?_ GE215.out) | exact HB.out)) hb); clear HO202; clear HO205; clear HO208; clear HO211; clear HO214; clear BK215; clear HB; have HO202 := n0_; have HO205 := n1_; have HO208 := n2_; have HO211 := n3_; have HO214 := n4_; have BK215 := n5_; have HB := n6_; clear n0_ n1_ n2_ n3_ n4_ n5_ n6_; (try clear hb); (try clear hb2); (try clear hk); (try clear hi)))
        (have n0_ := qM (Kd.R_drew HO202.out)); (have n1_ := qM (Kd.R_drew HO205.out)); (have n2_ := qM (Kd.R_drew HO208.out)); (have n3_ := qM (Kd.N_drew HO211.out)); (have n4_ := qM (Kd.N_drew HO214.out)); (have n5_ := qM (qd BK215.out)); (have n6_ := qM (qD HB.out)); clear HO202 HO205 HO208 HO211 HO214 BK215 HB; (have HO202 := n0_); (have HO205 := n1_); (have HO208 := n2_); (have HO211 := n3_); (have HO214 := n4_); (have BK215 := n5_); (have HB := n6_); clear n0_ n1_ n2_ n3_ n4_ n5_ n6_
        refine start_ (n := 39) (S := fun w' => w'.cell? ⟨gb215, 0, none⟩ = some (.slice Ao20 t200.length co20) ∧ w'.cell? ⟨gb215, 1, none⟩ = some (.slice Ao22 t203.length co22) ∧ w'.cell? ⟨gb215, 2, none⟩ = some (.slice Ao23 t206.length co23) ∧ w'.cell? ⟨gb215, 3, none⟩ = some (.slice Ao24 t209.length co24) ∧ w'.cell? ⟨gb215, 4, none⟩ = some (.slice Ao25 t212.length co25)) (ds := []) #[false, false, false, false, false, false, false, false, false, false, false, false, false, false, false, false, false, false, false, false, false, false, false, false, false, false, false, false, false, false, false, false, false, false, false, false, false, false, false] (by kernel_rfl) rfl rfl ⟨(blk_cell BK215.out 0).trans rfl, (blk_cell BK215.out 1).trans rfl, (blk_cell BK215.out 2).trans rfl, (blk_cell BK215.out 3).trans rfl, (blk_cell BK215.out 4).trans rfl⟩ (fun hHeld => ?_); refine with_tabW arboristlaw15_knows.tab3 arboristlaw15_knows.bits3 (fun HT_ HW_ => ?_)
        (generalize w26.drew = w27 at HO202 HO205 HO208 HO211 HO214 BK215 HB hHeld ⊢); (refine take_ (i := 0) (N := some 10) (v := ?_) (a' := ?_) #[true, false, false, false, false, false, false, false, false, false, false, false, false, false, false, false, false, false, false, false, false, false, false, false, false, false, false, false, false, false, false, false, false, false, false, false, false, false, false] rfl rfl (take_ofW HT_.out HW_.out (by kernel_rfl)) (fun _ _ _ h => h) (Or.inl ⟨by rfl, ?_⟩) hHeld ?_ ?_); rotate_left
        ·rintro w' ⟨s0, s1, s2, s3, s4⟩
         (go_simp); (with_reducible rfl)
        rotate_left; ((simp only [Act.put, List.setIfInBounds_toArray, List.set_cons_zero, List.set_cons_succ, i64_w, i32_w]; rfl)); (refine one_ (i := 1) (N := some 11) #[true, true, false, false, false, false, false, false, false, false, false, false, false, false, false, false, false, false, false, false, false, false, false, false, false, false, false, false, false, false, false, false, false, false, false, false, false, false, false] rfl rfl (one_of HT_.out (by kernel_rfl)) (by decide) (fun K hK => ?_)); (refine goes_ Tryd.func10 (by kernel_rfl) rfl #[.agg #[.slice Ao20 t200.length co20, .slice Ao22 t203.length co22, .slice Ao23 t206.length co23, .slice Ao24 t209.length co24, .slice Ao25 t212.length co25]] (by rfl) rfl rfl (by (try simp only [List.map_toArray, List.map_cons, List.map_nil]); first | done | rfl | (simp only [List.length_drop, List.length_take]; rfl)) ?_); (with_reducible refine (grammar_Right.calls k _ _ t200 _ _ t203 _ _ t206 _ _ t209 _ _ t212 t218 _ ?side1 ?side2 ?side3 ?side4 ?side5 ?side6 ?side7 ?side8 ?side9 ?side10 A3.out).mono ?_); ((case side1 => repeat (first | exact (Kd.R_reads' HO202.out).2.2 | (with_reducible refine Kd.C_alloc ?_ _) | (with_reducible refine Kd.C_drewN ?_ _) | (with_reducible refine Kd.C_drew ?_)))); ((case side2 => exact (Kd.R_reads' HO202.out).2.1)); ((case side3 => repeat (first | exact (Kd.R_reads' HO205.out).2.2 | (with_reducible refine Kd.C_alloc ?_ _) | (with_reducible refine Kd.C_drewN ?_ _) | (with_reducible refine Kd.C_drew ?_)))); ((case side4 => exact (Kd.R_reads' HO205.out).2.1)); ((case side5 => repeat (first | exact (Kd.R_reads' HO208.out).2.2 | (with_reducible refine Kd.C_alloc ?_ _) | (with_reducible refine Kd.C_drewN ?_ _) | (with_reducible refine Kd.C_drew ?_)))); ((case side6 => exact (Kd.R_reads' HO208.out).2.1)); ((case side7 => repeat (first | exact (Kd.N_reads' HO211.out).2.2 | (with_reducible refine Kd.C_alloc ?_ _) | (with_reducible refine Kd.C_drewN ?_ _) | (with_reducible refine Kd.C_drew ?_)))); ((case side8 => exact (Kd.N_reads' HO211.out).2.1)); ((case side9 => repeat (first | exact (Kd.N_reads' HO214.out).2.2 | (with_reducible refine Kd.C_alloc ?_ _) | (with_reducible refine Kd.C_drewN ?_ _) | (with_reducible refine Kd.C_drew ?_)))); ((case side10 => exact (Kd.N_reads' HO214.out).2.1)); (rintro e w28 ⟨rfl, hb⟩); (refine ⟨_, rfl, ?_⟩); (have n0_ := qM (Kd.R_below (by (with_reducible repeat (first | apply Kd.R_alloc | apply Kd.R_drewN | apply Kd.R_drew)); exact HO202.out) hb)); (have n1_ := qM (Kd.R_below (by (with_reducible repeat (first | apply Kd.R_alloc | apply Kd.R_drewN | apply Kd.R_drew)); exact HO205.out) hb))
        (have n2_ := qM (Kd.R_below (by (with_reducible repeat (first | apply Kd.R_alloc | apply Kd.R_drewN | apply Kd.R_drew)); exact HO208.out) hb)); (have n3_ := qM (Kd.N_below (by (with_reducible repeat (first | apply Kd.N_alloc | apply Kd.N_drewN | apply Kd.N_drew)); exact HO211.out) hb)); (have n4_ := qM (Kd.N_below (by (with_reducible repeat (first | apply Kd.N_alloc | apply Kd.N_drewN | apply Kd.N_drew)); exact HO214.out) hb)); (have n5_ := qM (qb (g := gb215) (o := .cells #[.slice Ao20 t200.length co20, .slice Ao22 t203.length co22, .slice Ao23 t206.length co23, .slice Ao24 t209.length co24, .slice Ao25 t212.length co25] 27 (0, 0)) (by (with_reducible repeat (first | refine qn ?_ _ | refine qd ?_ | refine qa ?_ _)); exact BK215.out) hb)); (have n6_ := qM (qP (by repeat (first | (with_reducible first | exact HB.out | apply qA | apply qN | apply qD | refine qS ?_ GE215.out) | exact HB.out)) hb)); clear HO202 HO205 HO208 HO211 HO214 BK215 HB; (have HO202 := n0_); (have HO205 := n1_); (have HO208 := n2_); (have HO211 := n3_); (have HO214 := n4_); (have BK215 := n5_); (have HB := n6_); clear n0_ n1_ n2_ n3_ n4_ n5_ n6_; ((try clear hb)); ((try clear hb2)); ((try clear hk)); ((try clear hi)); (refine hK.out _ _ ⟨(blk_cell BK215.out 0).trans rfl, (blk_cell BK215.out 1).trans rfl, (blk_cell BK215.out 2).trans rfl, (blk_cell BK215.out 3).trans rfl, (blk_cell BK215.out 4).trans rfl⟩ (fun hHeld => ?_)); clear hK K; (refine norm_ (a' := ?_) ?_ ?_); rotate_left; ((show Act.put _ (some 11) _ = _; simp only [Act.put, List.setIfInBounds_toArray, List.set_cons_zero, List.set_cons_succ, i64_w, i32_w]; rfl)); (refine pure_ (i := 2) (N := some 12) (v := ?_) (a' := ?_) #[true, true, true, false, false, false, false, false, false, false, false, false, false, false, false, false, false, false, false, false, false, false, false, false, false, false, false, false, false, false, false, false, false, false, false, false, false, false, false] rfl rfl (any_of HT_.out (by kernel_rfl)) (fun _ _ _ h => h) (Or.inl ⟨by rfl, ?_⟩) ?_ ?_); rotate_left; ((intro w'; go_simp; with_reducible rfl)); rotate_left; ((simp only [Act.put, List.setIfInBounds_toArray, List.set_cons_zero, List.set_cons_succ, i64_w, i32_w]; rfl)); (refine pure_ (i := 3) (N := some 13) (v := ?_) (a' := ?_) #[true, true, true, true, false, false, false, false, false, false, false, false, false, false, false, false, false, false, false, false, false, false, false, false, false, false, false, false, false, false, false, false, false, false, false, false, false, false, false] rfl rfl (any_of HT_.out (by kernel_rfl)) (fun _ _ _ h => h) (Or.inl ⟨by rfl, ?_⟩) ?_ ?_)
        rotate_left; ((intro w'; go_simp; with_reducible rfl)); rotate_left; ((simp only [Act.put, List.setIfInBounds_toArray, List.set_cons_zero, List.set_cons_succ, i64_w, i32_w]; rfl)); (refine take_ (i := 4) (N := some 14) (v := ?_) (a' := ?_) #[true, true, true, true, true, false, false, false, false, false, false, false, false, false, false, false, false, false, false, false, false, false, false, false, false, false, false, false, false, false, false, false, false, false, false, false, false, false, false] rfl rfl (take_ofW HT_.out HW_.out (by kernel_rfl)) (fun _ _ _ h => h) (Or.inl ⟨by rfl, ?_⟩) hHeld ?_ ?_); rotate_left
        ·rintro w' ⟨s0, s1, s2, s3, s4⟩
         (go_simp); (with_reducible rfl)
        rotate_left; ((simp only [Act.put, List.setIfInBounds_toArray, List.set_cons_zero, List.set_cons_succ, i64_w, i32_w]; rfl)); (refine one_ (i := 5) (N := some 15) #[true, true, true, true, true, true, false, false, false, false, false, false, false, false, false, false, false, false, false, false, false, false, false, false, false, false, false, false, false, false, false, false, false, false, false, false, false, false, false] rfl rfl (one_of HT_.out (by kernel_rfl)) (by decide) (fun K hK => ?_)); (refine goes_ Tryd.func18 (by kernel_rfl) rfl #[.agg #[.slice Ao20 t200.length co20, .slice Ao22 t203.length co22, .slice Ao23 t206.length co23, .slice Ao24 t209.length co24, .slice Ao25 t212.length co25]] (by rfl) rfl rfl (by (try simp only [List.map_toArray, List.map_cons, List.map_nil]); first | done | rfl | (simp only [List.length_drop, List.length_take]; rfl)) ?_); (with_reducible refine (grammar_Show.calls _ _ t200 _ _ t203 _ _ t206 _ _ t209 _ _ t212 t219 _ ?side11 ?side1 ?side2 ?side3 ?side4 ?side5 ?side6 ?side7 ?side8 ?side9 ?side10 A5.out).mono ?_); ((case side1 => repeat (first | exact (Kd.R_reads' HO202.out).2.2 | (with_reducible refine Kd.C_alloc ?_ _) | (with_reducible refine Kd.C_drewN ?_ _) | (with_reducible refine Kd.C_drew ?_)))); ((case side2 => exact (Kd.R_reads' HO202.out).2.1)); ((case side3 => repeat (first | exact (Kd.R_reads' HO205.out).2.2 | (with_reducible refine Kd.C_alloc ?_ _) | (with_reducible refine Kd.C_drewN ?_ _) | (with_reducible refine Kd.C_drew ?_)))); ((case side4 => exact (Kd.R_reads' HO205.out).2.1)); ((case side5 => repeat (first | exact (Kd.R_reads' HO208.out).2.2 | (with_reducible refine Kd.C_alloc ?_ _) | (with_reducible refine Kd.C_drewN ?_ _) | (with_reducible refine Kd.C_drew ?_)))); ((case side6 => exact (Kd.R_reads' HO208.out).2.1)); ((case side7 => repeat (first | exact (Kd.N_reads' HO211.out).2.2 | (with_reducible refine Kd.C_alloc ?_ _) | (with_reducible refine Kd.C_drewN ?_ _) | (with_reducible refine Kd.C_drew ?_)))); ((case side8 => exact (Kd.N_reads' HO211.out).2.1)); ((case side9 => repeat (first | exact (Kd.N_reads' HO214.out).2.2 | (with_reducible refine Kd.C_alloc ?_ _) | (with_reducible refine Kd.C_drewN ?_ _) | (with_reducible refine Kd.C_drew ?_)))); ((case side10 => exact (Kd.N_reads' HO214.out).2.1)); ((case side11 => exact GW.below HGW.out (by repeat (first | (with_reducible first | exact HB.out | apply qA | apply qN | apply qD | refine qS ?_ GE215.out) | exact HB.out)))); (rintro e w29 ⟨rfl, hb⟩)
        (refine ⟨_, rfl, ?_⟩); (have n0_ := qM (Kd.R_below (by (with_reducible repeat (first | apply Kd.R_alloc | apply Kd.R_drewN | apply Kd.R_drew)); exact HO202.out) hb)); (have n1_ := qM (Kd.R_below (by (with_reducible repeat (first | apply Kd.R_alloc | apply Kd.R_drewN | apply Kd.R_drew)); exact HO205.out) hb)); (have n2_ := qM (Kd.R_below (by (with_reducible repeat (first | apply Kd.R_alloc | apply Kd.R_drewN | apply Kd.R_drew)); exact HO208.out) hb)); (have n3_ := qM (Kd.N_below (by (with_reducible repeat (first | apply Kd.N_alloc | apply Kd.N_drewN | apply Kd.N_drew)); exact HO211.out) hb)); (have n4_ := qM (Kd.N_below (by (with_reducible repeat (first | apply Kd.N_alloc | apply Kd.N_drewN | apply Kd.N_drew)); exact HO214.out) hb)); (have n5_ := qM (qb (g := gb215) (o := .cells #[.slice Ao20 t200.length co20, .slice Ao22 t203.length co22, .slice Ao23 t206.length co23, .slice Ao24 t209.length co24, .slice Ao25 t212.length co25] 27 (0, 0)) (by (with_reducible repeat (first | refine qn ?_ _ | refine qd ?_ | refine qa ?_ _)); exact BK215.out) hb)); (have n6_ := qM (qP (by repeat (first | (with_reducible first | exact HB.out | apply qA | apply qN | apply qD | refine qS ?_ GE215.out) | exact HB.out)) hb)); clear HO202 HO205 HO208 HO211 HO214 BK215 HB; (have HO202 := n0_); (have HO205 := n1_); (have HO208 := n2_); (have HO211 := n3_); (have HO214 := n4_); (have BK215 := n5_); (have HB := n6_); clear n0_ n1_ n2_ n3_ n4_ n5_ n6_; ((try clear hb)); ((try clear hb2)); ((try clear hk)); ((try clear hi)); (refine hK.out _ _ ⟨(blk_cell BK215.out 0).trans rfl, (blk_cell BK215.out 1).trans rfl, (blk_cell BK215.out 2).trans rfl, (blk_cell BK215.out 3).trans rfl, (blk_cell BK215.out 4).trans rfl⟩ (fun hHeld => ?_)); clear hK K; (refine norm_ (a' := ?_) ?_ ?_); rotate_left; ((show Act.put _ (some 15) _ = _; simp only [Act.put, List.setIfInBounds_toArray, List.set_cons_zero, List.set_cons_succ, i64_w, i32_w]; rfl)); (refine pure_ (i := 6) (N := some 16) (v := ?_) (a' := ?_) #[true, true, true, true, true, true, true, false, false, false, false, false, false, false, false, false, false, false, false, false, false, false, false, false, false, false, false, false, false, false, false, false, false, false, false, false, false, false, false] rfl rfl (any_of HT_.out (by kernel_rfl)) (fun _ _ _ h => h) (Or.inl ⟨by rfl, ?_⟩) ?_ ?_); rotate_left; ((intro w'; go_simp; with_reducible rfl)); rotate_left; ((simp only [Act.put, List.setIfInBounds_toArray, List.set_cons_zero, List.set_cons_succ, i64_w, i32_w]; rfl))
        (refine pure_ (i := 7) (N := some 17) (v := ?_) (a' := ?_) #[true, true, true, true, true, true, true, true, false, false, false, false, false, false, false, false, false, false, false, false, false, false, false, false, false, false, false, false, false, false, false, false, false, false, false, false, false, false, false] rfl rfl (any_of HT_.out (by kernel_rfl)) (fun _ _ _ h => h) (Or.inl ⟨by rfl, ?_⟩) ?_ ?_); rotate_left; ((intro w'; go_simp; with_reducible rfl)); rotate_left; ((simp only [Act.put, List.setIfInBounds_toArray, List.set_cons_zero, List.set_cons_succ, i64_w, i32_w]; rfl)); (refine pure_ (i := 8) (N := some 18) (v := ?_) (a' := ?_) #[true, true, true, true, true, true, true, true, true, false, false, false, false, false, false, false, false, false, false, false, false, false, false, false, false, false, false, false, false, false, false, false, false, false, false, false, false, false, false] rfl rfl (any_of HT_.out (by kernel_rfl)) (fun _ _ _ h => h) (Or.inl ⟨by rfl, ?_⟩) ?_ ?_); rotate_left; ((intro w'; go_simp; with_reducible rfl)); rotate_left; ((simp only [Act.put, List.setIfInBounds_toArray, List.set_cons_zero, List.set_cons_succ, i64_w, i32_w]; rfl)); (refine pure_ (i := 9) (N := some 19) (v := ?_) (a' := ?_) #[true, true, true, true, true, true, true, true, true, true, false, false, false, false, false, false, false, false, false, false, false, false, false, false, false, false, false, false, false, false, false, false, false, false, false, false, false, false, false] rfl rfl (any_of HT_.out (by kernel_rfl)) (fun _ _ _ h => h) (Or.inl ⟨by rfl, ?_⟩) ?_ ?_); rotate_left; ((intro w'; go_simp; with_reducible rfl)); rotate_left; ((simp only [Act.put, List.setIfInBounds_toArray, List.set_cons_zero, List.set_cons_succ, i64_w, i32_w]; rfl)); (refine pure_ (i := 10) (N := some 20) (v := ?_) (a' := ?_) #[true, true, true, true, true, true, true, true, true, true, true, false, false, false, false, false, false, false, false, false, false, false, false, false, false, false, false, false, false, false, false, false, false, false, false, false, false, false, false] rfl rfl (any_of HT_.out (by kernel_rfl)) (fun _ _ _ h => h) (Or.inl ⟨by rfl, ?_⟩) ?_ ?_); rotate_left; ((intro w'; go_simp; with_reducible rfl)); rotate_left; ((simp only [Act.put, List.setIfInBounds_toArray, List.set_cons_zero, List.set_cons_succ, i64_w, i32_w]; rfl)); (refine pure_ (i := 11) (N := some 21) (v := ?_) (a' := ?_) #[true, true, true, true, true, true, true, true, true, true, true, true, false, false, false, false, false, false, false, false, false, false, false, false, false, false, false, false, false, false, false, false, false, false, false, false, false, false, false] rfl rfl (any_of HT_.out (by kernel_rfl)) (fun _ _ _ h => h) (Or.inl ⟨by rfl, ?_⟩) ?_ ?_)
        rotate_left; ((intro w'; go_simp; with_reducible rfl)); rotate_left; ((simp only [Act.put, List.setIfInBounds_toArray, List.set_cons_zero, List.set_cons_succ, i64_w, i32_w]; rfl)); (refine pure_ (i := 12) (N := some 22) (v := ?_) (a' := ?_) #[true, true, true, true, true, true, true, true, true, true, true, true, true, false, false, false, false, false, false, false, false, false, false, false, false, false, false, false, false, false, false, false, false, false, false, false, false, false, false] rfl rfl (any_of HT_.out (by kernel_rfl)) (fun _ _ _ h => h) (Or.inl ⟨by rfl, ?_⟩) ?_ ?_); rotate_left; ((intro w'; go_simp; with_reducible rfl)); rotate_left; ((simp only [Act.put, List.setIfInBounds_toArray, List.set_cons_zero, List.set_cons_succ, i64_w, i32_w]; rfl)); (refine pure_ (i := 13) (N := some 23) (v := ?_) (a' := ?_) #[true, true, true, true, true, true, true, true, true, true, true, true, true, true, false, false, false, false, false, false, false, false, false, false, false, false, false, false, false, false, false, false, false, false, false, false, false, false, false] rfl rfl (any_of HT_.out (by kernel_rfl)) (fun _ _ _ h => h) (Or.inl ⟨by rfl, ?_⟩) ?_ ?_); rotate_left; ((intro w'; go_simp; with_reducible rfl)); rotate_left; ((simp only [Act.put, List.setIfInBounds_toArray, List.set_cons_zero, List.set_cons_succ, i64_w, i32_w]; rfl)); (refine pure_ (i := 14) (N := some 24) (v := ?_) (a' := ?_) #[true, true, true, true, true, true, true, true, true, true, true, true, true, true, true, false, false, false, false, false, false, false, false, false, false, false, false, false, false, false, false, false, false, false, false, false, false, false, false] rfl rfl (any_of HT_.out (by kernel_rfl)) (fun _ _ _ h => h) (Or.inl ⟨by rfl, ?_⟩) ?_ ?_); rotate_left; ((intro w'; go_simp; with_reducible rfl)); rotate_left; ((simp only [Act.put, List.setIfInBounds_toArray, List.set_cons_zero, List.set_cons_succ, i64_w, i32_w]; rfl)); (refine pure_ (i := 15) (N := some 25) (v := ?_) (a' := ?_) #[true, true, true, true, true, true, true, true, true, true, true, true, true, true, true, true, false, false, false, false, false, false, false, false, false, false, false, false, false, false, false, false, false, false, false, false, false, false, false] rfl rfl (any_of HT_.out (by kernel_rfl)) (fun _ _ _ h => h) (Or.inl ⟨by rfl, ?_⟩) ?_ ?_); rotate_left; ((intro w'; go_simp; with_reducible rfl)); rotate_left; ((simp only [Act.put, List.setIfInBounds_toArray, List.set_cons_zero, List.set_cons_succ, i64_w, i32_w]; rfl)); (refine take_ (i := 16) (N := some 26) (v := ?_) (a' := ?_) #[true, true, true, true, true, true, true, true, true, true, true, true, true, true, true, true, true, false, false, false, false, false, false, false, false, false, false, false, false, false, false, false, false, false, false, false, false, false, false] rfl rfl (take_ofW HT_.out HW_.out (by kernel_rfl)) (fun _ _ _ h => h) (Or.inl ⟨by rfl, ?_⟩) hHeld ?_ ?_)
        rotate_left
        ·rintro w' ⟨s0, s1, s2, s3, s4⟩
         (go_simp); (with_reducible rfl)
        rotate_left; ((simp only [Act.put, List.setIfInBounds_toArray, List.set_cons_zero, List.set_cons_succ, i64_w, i32_w]; rfl)); (refine one_ (i := 17) (N := some 27) #[true, true, true, true, true, true, true, true, true, true, true, true, true, true, true, true, true, true, false, false, false, false, false, false, false, false, false, false, false, false, false, false, false, false, false, false, false, false, false] rfl rfl (one_of HT_.out (by kernel_rfl)) (by decide) (fun K hK => ?_)); (refine Kd.R_lit_step (Kd.int .i64) _ 3 ?hg (N := 27) ?hd (xs := ([2, (-2), 9] : List Int)) (inner := [.int .i64 2, .int .i64 (-2), .int .i64 9]) (ok := fun _ => True) (okp := fun _ => True) ?hr ?hp (fun _ hk => hk) trivial (Below.refl _ _) (Nat.le_refl _) (by simp) ?_; (case hd => rfl); (case hg => rfl); (case hr => first | (go_simp; done) | (go_simp; rfl)); (case hp => exact (Reps.one (show Kd.M (Kd.int .i64) _ _ _ 2 [.int .i64 2] from rfl) (Reps.one (show Kd.M (Kd.int .i64) _ _ _ (-2) [.int .i64 (-2)] from rfl) (Reps.one (show Kd.M (Kd.int .i64) _ _ _ 9 [.int .i64 9] from rfl) (Reps.none _ _)))))); (intro v221 w30 ho31 hb hg_ hnew_); clear hg_ hnew_; ((first | rw [← Ny220.out] at ho31 | (simp only [Int.reduceToNat] at ho31; rw [← Ny220.out] at ho31))); (have n0_ := qM (Kd.R_below (by (with_reducible repeat (first | apply Kd.R_alloc | apply Kd.R_drewN | apply Kd.R_drew)); exact HO202.out) hb)); (have n1_ := qM (Kd.R_below (by (with_reducible repeat (first | apply Kd.R_alloc | apply Kd.R_drewN | apply Kd.R_drew)); exact HO205.out) hb)); (have n2_ := qM (Kd.R_below (by (with_reducible repeat (first | apply Kd.R_alloc | apply Kd.R_drewN | apply Kd.R_drew)); exact HO208.out) hb)); (have n3_ := qM (Kd.N_elder' (by (with_reducible repeat (first | apply Kd.N_alloc | apply Kd.N_drewN | apply Kd.N_drew)); exact HO211.out) (Kd.R_base ho31) hb)); (have n4_ := qM (Kd.N_elder' (by (with_reducible repeat (first | apply Kd.N_alloc | apply Kd.N_drewN | apply Kd.N_drew)); exact HO214.out) (Kd.R_base ho31) hb)); (have n5_ := qM (Kd.R_lower ho31 (qZ (by repeat (first | (with_reducible first | exact HB.out | apply qA | apply qN | apply qD | refine qS ?_ GE215.out) | exact HB.out))))); (have n6_ := qM (qb (g := gb215) (o := .cells #[.slice Ao20 t200.length co20, .slice Ao22 t203.length co22, .slice Ao23 t206.length co23, .slice Ao24 t209.length co24, .slice Ao25 t212.length co25] 27 (0, 0)) (by (with_reducible repeat (first | refine qn ?_ _ | refine qd ?_ | refine qa ?_ _)); exact BK215.out) hb))
        (have n7_ := qM (qP (by repeat (first | (with_reducible first | exact HB.out | apply qA | apply qN | apply qD | refine qS ?_ GE215.out) | exact HB.out)) hb)); clear HO202 HO205 HO208 HO211 HO214 BK215 HB; (have HO202 := n0_); (have HO205 := n1_); (have HO208 := n2_); (have HO211 := n3_); (have HO214 := n4_); (have HO222 := n5_); (have BK215 := n6_); (have HB := n7_); clear n0_ n1_ n2_ n3_ n4_ n5_ n6_ n7_ hb ho31; (obtain ⟨Ao32, co32, eo32⟩ := Kd.R_slice HO222.out); ((first | subst eo32 | (injection eo32 with f1_ f2_ f3_; have f4_ := f1_.symm; have f5_ := f3_.symm; clear f1_ f2_ f3_; subst f4_; subst f5_))); (refine hK.out _ _ ⟨(blk_cell BK215.out 0).trans rfl, (blk_cell BK215.out 1).trans rfl, (blk_cell BK215.out 2).trans rfl, (blk_cell BK215.out 3).trans rfl, (blk_cell BK215.out 4).trans rfl⟩ (fun hHeld => ?_)); clear hK K; (refine norm_ (a' := ?_) ?_ ?_); rotate_left; ((show Act.put _ (some 27) _ = _; simp only [Act.put, List.setIfInBounds_toArray, List.set_cons_zero, List.set_cons_succ, i64_w, i32_w]; rfl)); (refine one_ (i := 18) (N := some 28) #[true, true, true, true, true, true, true, true, true, true, true, true, true, true, true, true, true, true, true, false, false, false, false, false, false, false, false, false, false, false, false, false, false, false, false, false, false, false, false] rfl rfl (one_of HT_.out (by kernel_rfl)) (by decide) (fun K hK => ?_)); (refine goes_ Tryd.func16 (by kernel_rfl) rfl #[.agg #[.slice Ao20 t200.length co20, .slice Ao22 t203.length co22, .slice Ao23 t206.length co23, .slice Ao24 t209.length co24, .slice Ao25 t212.length co25], .slice Ao32 y220.length co32] (by rfl) rfl rfl (by (try simp only [List.map_toArray, List.map_cons, List.map_nil]); first | done | rfl | (simp only [List.length_drop, List.length_take]; rfl)) ?_); (with_reducible refine (grammar_Word.calls k _ _ t200 _ _ t203 _ _ t206 _ _ t209 _ _ t212 _ _ y220 t223 _ ?side1 ?side2 ?side3 ?side4 ?side5 ?side6 ?side7 ?side8 ?side9 ?side10 ?side11 ?side12 A9.out).mono ?_); ((case side1 => repeat (first | exact (Kd.R_reads' HO202.out).2.2 | (with_reducible refine Kd.C_alloc ?_ _) | (with_reducible refine Kd.C_drewN ?_ _) | (with_reducible refine Kd.C_drew ?_)))); ((case side2 => exact (Kd.R_reads' HO202.out).2.1)); ((case side3 => repeat (first | exact (Kd.R_reads' HO205.out).2.2 | (with_reducible refine Kd.C_alloc ?_ _) | (with_reducible refine Kd.C_drewN ?_ _) | (with_reducible refine Kd.C_drew ?_)))); ((case side4 => exact (Kd.R_reads' HO205.out).2.1))
        ((case side5 => repeat (first | exact (Kd.R_reads' HO208.out).2.2 | (with_reducible refine Kd.C_alloc ?_ _) | (with_reducible refine Kd.C_drewN ?_ _) | (with_reducible refine Kd.C_drew ?_)))); ((case side6 => exact (Kd.R_reads' HO208.out).2.1)); ((case side7 => repeat (first | exact (Kd.N_reads' HO211.out).2.2 | (with_reducible refine Kd.C_alloc ?_ _) | (with_reducible refine Kd.C_drewN ?_ _) | (with_reducible refine Kd.C_drew ?_)))); ((case side8 => exact (Kd.N_reads' HO211.out).2.1)); ((case side9 => repeat (first | exact (Kd.N_reads' HO214.out).2.2 | (with_reducible refine Kd.C_alloc ?_ _) | (with_reducible refine Kd.C_drewN ?_ _) | (with_reducible refine Kd.C_drew ?_)))); ((case side10 => exact (Kd.N_reads' HO214.out).2.1)); ((case side11 => repeat (first | exact (Kd.R_reads' HO222.out).2.2 | (with_reducible refine Kd.C_alloc ?_ _) | (with_reducible refine Kd.C_drewN ?_ _) | (with_reducible refine Kd.C_drew ?_)))); ((case side12 => exact (Kd.R_reads' HO222.out).2.1)); (rintro e w33 ⟨rfl, hb⟩); (refine ⟨_, rfl, ?_⟩); (have n0_ := qM (Kd.R_below (by (with_reducible repeat (first | apply Kd.R_alloc | apply Kd.R_drewN | apply Kd.R_drew)); exact HO202.out) hb)); (have n1_ := qM (Kd.R_below (by (with_reducible repeat (first | apply Kd.R_alloc | apply Kd.R_drewN | apply Kd.R_drew)); exact HO205.out) hb)); (have n2_ := qM (Kd.R_below (by (with_reducible repeat (first | apply Kd.R_alloc | apply Kd.R_drewN | apply Kd.R_drew)); exact HO208.out) hb)); (have n3_ := qM (Kd.N_below (by (with_reducible repeat (first | apply Kd.N_alloc | apply Kd.N_drewN | apply Kd.N_drew)); exact HO211.out) hb)); (have n4_ := qM (Kd.N_below (by (with_reducible repeat (first | apply Kd.N_alloc | apply Kd.N_drewN | apply Kd.N_drew)); exact HO214.out) hb)); (have n5_ := qM (Kd.R_below (by (with_reducible repeat (first | apply Kd.R_alloc | apply Kd.R_drewN | apply Kd.R_drew)); exact HO222.out) hb)); (have n6_ := qM (qb (g := gb215) (o := .cells #[.slice Ao20 t200.length co20, .slice Ao22 t203.length co22, .slice Ao23 t206.length co23, .slice Ao24 t209.length co24, .slice Ao25 t212.length co25] 27 (0, 0)) (by (with_reducible repeat (first | refine qn ?_ _ | refine qd ?_ | refine qa ?_ _)); exact BK215.out) hb)); (have n7_ := qM (qP (by repeat (first | (with_reducible first | exact HB.out | apply qA | apply qN | apply qD | refine qS ?_ GE215.out) | exact HB.out)) hb)); clear HO202 HO205 HO208 HO211 HO214 HO222 BK215 HB
        (have HO202 := n0_); (have HO205 := n1_); (have HO208 := n2_); (have HO211 := n3_); (have HO214 := n4_); (have HO222 := n5_); (have BK215 := n6_); (have HB := n7_); clear n0_ n1_ n2_ n3_ n4_ n5_ n6_ n7_; ((try clear hb)); ((try clear hb2)); ((try clear hk)); ((try clear hi)); (refine hK.out _ _ ⟨(blk_cell BK215.out 0).trans rfl, (blk_cell BK215.out 1).trans rfl, (blk_cell BK215.out 2).trans rfl, (blk_cell BK215.out 3).trans rfl, (blk_cell BK215.out 4).trans rfl⟩ (fun hHeld => ?_)); clear hK K; (refine norm_ (a' := ?_) ?_ ?_); rotate_left; ((show Act.put _ (some 28) _ = _; simp only [Act.put, List.setIfInBounds_toArray, List.set_cons_zero, List.set_cons_succ, i64_w, i32_w]; rfl)); (refine pure_ (i := 19) (N := some 29) (v := ?_) (a' := ?_) #[true, true, true, true, true, true, true, true, true, true, true, true, true, true, true, true, true, true, true, true, false, false, false, false, false, false, false, false, false, false, false, false, false, false, false, false, false, false, false] rfl rfl (any_of HT_.out (by kernel_rfl)) (fun _ _ _ h => h) (Or.inl ⟨by rfl, ?_⟩) ?_ ?_); rotate_left; ((intro w'; go_simp; with_reducible rfl)); rotate_left; ((simp only [Act.put, List.setIfInBounds_toArray, List.set_cons_zero, List.set_cons_succ, i64_w, i32_w]; rfl)); (refine pure_ (i := 20) (N := some 30) (v := ?_) (a' := ?_) #[true, true, true, true, true, true, true, true, true, true, true, true, true, true, true, true, true, true, true, true, true, false, false, false, false, false, false, false, false, false, false, false, false, false, false, false, false, false, false] rfl rfl (any_of HT_.out (by kernel_rfl)) (fun _ _ _ h => h) (Or.inl ⟨by rfl, ?_⟩) ?_ ?_); rotate_left; ((intro w'; go_simp; with_reducible rfl)); rotate_left; ((simp only [Act.put, List.setIfInBounds_toArray, List.set_cons_zero, List.set_cons_succ, i64_w, i32_w]; rfl)); (refine pure_ (i := 21) (N := some 31) (v := ?_) (a' := ?_) #[true, true, true, true, true, true, true, true, true, true, true, true, true, true, true, true, true, true, true, true, true, true, false, false, false, false, false, false, false, false, false, false, false, false, false, false, false, false, false] rfl rfl (any_of HT_.out (by kernel_rfl)) (fun _ _ _ h => h) (Or.inl ⟨by rfl, ?_⟩) ?_ ?_); rotate_left; ((intro w'; go_simp; with_reducible rfl)); rotate_left; ((simp only [Act.put, List.setIfInBounds_toArray, List.set_cons_zero, List.set_cons_succ, i64_w, i32_w]; rfl)); (refine take_ (i := 22) (N := some 32) (v := ?_) (a' := ?_) #[true, true, true, true, true, true, true, true, true, true, true, true, true, true, true, true, true, true, true, true, true, true, true, false, false, false, false, false, false, false, false, false, false, false, false, false, false, false, false] rfl rfl (take_ofW HT_.out HW_.out (by kernel_rfl)) (fun _ _ _ h => h) (Or.inl ⟨by rfl, ?_⟩) hHeld ?_ ?_)
        rotate_left
        ·rintro w' ⟨s0, s1, s2, s3, s4⟩
         (go_simp); (with_reducible rfl)
        rotate_left; ((simp only [Act.put, List.setIfInBounds_toArray, List.set_cons_zero, List.set_cons_succ, i64_w, i32_w]; rfl)); (refine one_ (i := 23) (N := some 33) #[true, true, true, true, true, true, true, true, true, true, true, true, true, true, true, true, true, true, true, true, true, true, true, true, false, false, false, false, false, false, false, false, false, false, false, false, false, false, false] rfl rfl (one_of HT_.out (by kernel_rfl)) (by decide) (fun K hK => ?_)); (refine goes_ Tryd.func23 (by kernel_rfl) rfl #[] (by rfl) rfl rfl (by (try simp only [List.map_toArray, List.map_cons, List.map_nil]); first | done | rfl | (simp only [List.length_drop, List.length_take]; rfl)) ?_); (with_reducible refine (arboristlaw15_Two.calls  t224 t227 t230 t233 t236 _ A11.out).mono ?_); (rintro e w34 ⟨v225, v228, v231, v234, v237, rfl, ho0, ho1, ho2, ho3, ho4, hb⟩); (refine ⟨_, rfl, ?_⟩); (have n0_ := qM (Kd.R_mono (Kd.R_told (Kd.R_told (Kd.R_old (by (with_reducible repeat (first | apply Kd.R_alloc | apply Kd.R_drewN | apply Kd.R_drew)); exact HO202.out) hb) (Kd.R_base ho0)) (Kd.R_base ho1)) (fun _ h_ => h_.1))); (have n1_ := qM (Kd.R_mono (Kd.R_told (Kd.R_told (Kd.R_old (by (with_reducible repeat (first | apply Kd.R_alloc | apply Kd.R_drewN | apply Kd.R_drew)); exact HO205.out) hb) (Kd.R_base ho0)) (Kd.R_base ho1)) (fun _ h_ => h_.1))); (have n2_ := qM (Kd.R_elder' (by (with_reducible repeat (first | apply Kd.R_alloc | apply Kd.R_drewN | apply Kd.R_drew)); exact HO208.out) (Kd.R_base ho2) hb)); (have n3_ := qM (Kd.N_mono (Kd.N_told (Kd.N_told (Kd.N_told (Kd.N_told (Kd.N_told (Kd.N_old (by (with_reducible repeat (first | apply Kd.N_alloc | apply Kd.N_drewN | apply Kd.N_drew)); exact HO211.out) hb) (Kd.R_base ho0)) (Kd.R_base ho1)) (Kd.R_base ho2)) (Kd.N_base ho3)) (Kd.N_base ho4)) (fun _ h_ => h_.1))); (have n4_ := qM (Kd.N_mono (Kd.N_told (Kd.N_told (Kd.N_told (Kd.N_told (Kd.N_told (Kd.N_old (by (with_reducible repeat (first | apply Kd.N_alloc | apply Kd.N_drewN | apply Kd.N_drew)); exact HO214.out) hb) (Kd.R_base ho0)) (Kd.R_base ho1)) (Kd.R_base ho2)) (Kd.N_base ho3)) (Kd.N_base ho4)) (fun _ h_ => h_.1))); (have n5_ := qM (Kd.R_below (by (with_reducible repeat (first | apply Kd.R_alloc | apply Kd.R_drewN | apply Kd.R_drew)); exact HO222.out) hb)); (have n6_ := qM (Kd.R_lower (Kd.R_new' (Kd.R_new' (Kd.R_mono (ok' := fun k_ => some k_ ≠ (v228 : Value).ownBlock) ho0 (fun _ hk_ => hk_.2)) (Kd.R_lt (by (with_reducible repeat (first | apply Kd.R_alloc | apply Kd.R_drewN | apply Kd.R_drew)); exact HO202.out))) (Kd.R_lt (by (with_reducible repeat (first | apply Kd.R_alloc | apply Kd.R_drewN | apply Kd.R_drew)); exact HO205.out))) (qZ (by repeat (first | (with_reducible first | exact HB.out | apply qA | apply qN | apply qD | refine qS ?_ GE215.out) | exact HB.out)))))
        (have n7_ := qM (Kd.R_lower (Kd.R_new' (Kd.R_new' (Kd.R_mono (ok' := fun k_ => some k_ ≠ (v225 : Value).ownBlock) ho1 (fun _ hk_ => hk_.2)) (Kd.R_lt (by (with_reducible repeat (first | apply Kd.R_alloc | apply Kd.R_drewN | apply Kd.R_drew)); exact HO202.out))) (Kd.R_lt (by (with_reducible repeat (first | apply Kd.R_alloc | apply Kd.R_drewN | apply Kd.R_drew)); exact HO205.out))) (qZ (by repeat (first | (with_reducible first | exact HB.out | apply qA | apply qN | apply qD | refine qS ?_ GE215.out) | exact HB.out))))); (have n8_ := qM (Kd.R_lower (Kd.R_new' (Kd.R_mono (ok' := fun k_ => True) ho2 (fun _ hk_ => trivial)) (Kd.R_lt (by (with_reducible repeat (first | apply Kd.R_alloc | apply Kd.R_drewN | apply Kd.R_drew)); exact HO208.out))) (qZ (by repeat (first | (with_reducible first | exact HB.out | apply qA | apply qN | apply qD | refine qS ?_ GE215.out) | exact HB.out)))))
        have n9_ := qM (Kd.N_lower (Kd.N_mono (ok' := fun k_ => some k_ ≠ (v225 : Value).ownBlock ∧ some k_ ≠ (v228 : Value).ownBlock ∧ some k_ ≠ (v231 : Value).ownBlock ∧ some k_ ≠ (v237 : Value).ownBlock ∧ some k_ ≠ (.slice Ao20 t200.length co20 : Value).ownBlock ∧ some k_ ≠ (.slice Ao22 t203.length co22 : Value).ownBlock ∧ some k_ ≠ (.slice Ao23 t206.length co23 : Value).ownBlock ∧ some k_ ≠ (.slice Ao24 t209.length co24 : Value).ownBlock ∧ some k_ ≠ (.slice Ao25 t212.length co25 : Value).ownBlock ∧ some k_ ≠ (.slice Ao32 y220.length co32 : Value).ownBlock ∧ k_ ≠ gb215) ho3 (fun k_ hk_ => ⟨hk_.2.1, hk_.2.2.1, hk_.2.2.2.1, hk_.2.2.2.2, (Kd.fresh' (Kd.R_lt (by (with_reducible repeat (first | apply Kd.R_alloc | apply Kd.R_drewN | apply Kd.R_drew)); exact HO202.out)) k_ hk_.1), (Kd.fresh' (Kd.R_lt (by (with_reducible repeat (first | apply Kd.R_alloc | apply Kd.R_drewN | apply Kd.R_drew)); exact HO205.out)) k_ hk_.1), (Kd.fresh' (Kd.R_lt (by (with_reducible repeat (first | apply Kd.R_alloc | apply Kd.R_drewN | apply Kd.R_drew)); exact HO208.out)) k_ hk_.1), (Kd.fresh' (Kd.N_lt (by (with_reducible repeat (first | apply Kd.N_alloc | apply Kd.N_drewN | apply Kd.N_drew)); exact HO211.out)) k_ hk_.1), (Kd.fresh' (Kd.N_lt (by (with_reducible repeat (first | apply Kd.N_alloc | apply Kd.N_drewN | apply Kd.N_drew)); exact HO214.out)) k_ hk_.1), (Kd.fresh' (Kd.R_lt (by (with_reducible repeat (first | apply Kd.R_alloc | apply Kd.R_drewN | apply Kd.R_drew)); exact HO222.out)) k_ hk_.1), (Kd.freshB (g := gb215) (o := .cells #[.slice Ao20 t200.length co20, .slice Ao22 t203.length co22, .slice Ao23 t206.length co23, .slice Ao24 t209.length co24, .slice Ao25 t212.length co25] 27 (0, 0)) (by (with_reducible repeat (first | refine qn ?_ _ | refine qd ?_ | refine qa ?_ _)); exact BK215.out) k_ hk_.1)⟩)) (qZ (by repeat (first | (with_reducible first | exact HB.out | apply qA | apply qN | apply qD | refine qS ?_ GE215.out) | exact HB.out))))
        have n10_ := qM (Kd.N_lower (Kd.N_mono (ok' := fun k_ => some k_ ≠ (v225 : Value).ownBlock ∧ some k_ ≠ (v228 : Value).ownBlock ∧ some k_ ≠ (v231 : Value).ownBlock ∧ some k_ ≠ (v234 : Value).ownBlock ∧ some k_ ≠ (.slice Ao20 t200.length co20 : Value).ownBlock ∧ some k_ ≠ (.slice Ao22 t203.length co22 : Value).ownBlock ∧ some k_ ≠ (.slice Ao23 t206.length co23 : Value).ownBlock ∧ some k_ ≠ (.slice Ao24 t209.length co24 : Value).ownBlock ∧ some k_ ≠ (.slice Ao25 t212.length co25 : Value).ownBlock ∧ some k_ ≠ (.slice Ao32 y220.length co32 : Value).ownBlock ∧ k_ ≠ gb215) ho4 (fun k_ hk_ => ⟨hk_.2.1, hk_.2.2.1, hk_.2.2.2.1, hk_.2.2.2.2, (Kd.fresh' (Kd.R_lt (by (with_reducible repeat (first | apply Kd.R_alloc | apply Kd.R_drewN | apply Kd.R_drew)); exact HO202.out)) k_ hk_.1), (Kd.fresh' (Kd.R_lt (by (with_reducible repeat (first | apply Kd.R_alloc | apply Kd.R_drewN | apply Kd.R_drew)); exact HO205.out)) k_ hk_.1), (Kd.fresh' (Kd.R_lt (by (with_reducible repeat (first | apply Kd.R_alloc | apply Kd.R_drewN | apply Kd.R_drew)); exact HO208.out)) k_ hk_.1), (Kd.fresh' (Kd.N_lt (by (with_reducible repeat (first | apply Kd.N_alloc | apply Kd.N_drewN | apply Kd.N_drew)); exact HO211.out)) k_ hk_.1), (Kd.fresh' (Kd.N_lt (by (with_reducible repeat (first | apply Kd.N_alloc | apply Kd.N_drewN | apply Kd.N_drew)); exact HO214.out)) k_ hk_.1), (Kd.fresh' (Kd.R_lt (by (with_reducible repeat (first | apply Kd.R_alloc | apply Kd.R_drewN | apply Kd.R_drew)); exact HO222.out)) k_ hk_.1), (Kd.freshB (g := gb215) (o := .cells #[.slice Ao20 t200.length co20, .slice Ao22 t203.length co22, .slice Ao23 t206.length co23, .slice Ao24 t209.length co24, .slice Ao25 t212.length co25] 27 (0, 0)) (by (with_reducible repeat (first | refine qn ?_ _ | refine qd ?_ | refine qa ?_ _)); exact BK215.out) k_ hk_.1)⟩)) (qZ (by repeat (first | (with_reducible first | exact HB.out | apply qA | apply qN | apply qD | refine qS ?_ GE215.out) | exact HB.out))))
        (have n11_ := qM (qb (g := gb215) (o := .cells #[.slice Ao20 t200.length co20, .slice Ao22 t203.length co22, .slice Ao23 t206.length co23, .slice Ao24 t209.length co24, .slice Ao25 t212.length co25] 27 (0, 0)) (by (with_reducible repeat (first | refine qn ?_ _ | refine qd ?_ | refine qa ?_ _)); exact BK215.out) hb)); (have n12_ := qM (qP (by repeat (first | (with_reducible first | exact HB.out | apply qA | apply qN | apply qD | refine qS ?_ GE215.out) | exact HB.out)) hb)); clear HO202 HO205 HO208 HO211 HO214 HO222 BK215 HB; (have HO202 := n0_); (have HO205 := n1_); (have HO208 := n2_); (have HO211 := n3_); (have HO214 := n4_); (have HO222 := n5_); (have HO226 := n6_); (have HO229 := n7_); (have HO232 := n8_); (have HO235 := n9_); (have HO238 := n10_); (have BK215 := n11_); (have HB := n12_); clear n0_ n1_ n2_ n3_ n4_ n5_ n6_ n7_ n8_ n9_ n10_ n11_ n12_; ((try clear hb)); ((try clear hb2)); ((try clear hk)); ((try clear hi)); ((try clear ho0)); ((try clear ho1)); ((try clear ho2)); ((try clear ho3)); ((try clear ho4)); (obtain ⟨Ao35, co35, eo35⟩ := Kd.R_slice HO226.out); ((first | subst eo35 | (injection eo35 with f1_ f2_ f3_; have f4_ := f1_.symm; have f5_ := f3_.symm; clear f1_ f2_ f3_; subst f4_; subst f5_))); (obtain ⟨Ao36, co36, eo36⟩ := Kd.R_slice HO229.out); ((first | subst eo36 | (injection eo36 with f1_ f2_ f3_; have f4_ := f1_.symm; have f5_ := f3_.symm; clear f1_ f2_ f3_; subst f4_; subst f5_))); (obtain ⟨Ao37, co37, eo37⟩ := Kd.R_slice HO232.out); ((first | subst eo37 | (injection eo37 with f1_ f2_ f3_; have f4_ := f1_.symm; have f5_ := f3_.symm; clear f1_ f2_ f3_; subst f4_; subst f5_))); (obtain ⟨Ao38, co38, eo38⟩ := Kd.N_slice HO235.out); ((first | subst eo38 | (injection eo38 with f1_ f2_ f3_; have f4_ := f1_.symm; have f5_ := f3_.symm; clear f1_ f2_ f3_; subst f4_; subst f5_))); (obtain ⟨Ao39, co39, eo39⟩ := Kd.N_slice HO238.out); ((first | subst eo39 | (injection eo39 with f1_ f2_ f3_; have f4_ := f1_.symm; have f5_ := f3_.symm; clear f1_ f2_ f3_; subst f4_; subst f5_))); (refine hK.out _ _ ⟨(blk_cell BK215.out 0).trans rfl, (blk_cell BK215.out 1).trans rfl, (blk_cell BK215.out 2).trans rfl, (blk_cell BK215.out 3).trans rfl, (blk_cell BK215.out 4).trans rfl⟩ (fun hHeld => ?_)); clear hK K; (refine norm_ (a' := ?_) ?_ ?_); rotate_left; ((show Act.put _ (some 33) _ = _; simp only [Act.put, List.setIfInBounds_toArray, List.set_cons_zero, List.set_cons_succ, i64_w, i32_w]; rfl)); (refine one_ (i := 24) (N := some 34) #[true, true, true, true, true, true, true, true, true, true, true, true, true, true, true, true, true, true, true, true, true, true, true, true, true, false, false, false, false, false, false, false, false, false, false, false, false, false, false] rfl rfl (one_of HT_.out (by kernel_rfl)) (by decide) (fun K hK => ?_))
        (refine goes_ Tryd.func24 (by kernel_rfl) rfl #[.agg #[.slice Ao20 t200.length co20, .slice Ao22 t203.length co22, .slice Ao23 t206.length co23, .slice Ao24 t209.length co24, .slice Ao25 t212.length co25], .agg #[.slice Ao35 t224.length co35, .slice Ao36 t227.length co36, .slice Ao37 t230.length co37, .slice Ao38 t233.length co38, .slice Ao39 t236.length co39]] (by rfl) rfl rfl (by (try simp only [List.map_toArray, List.map_cons, List.map_nil]); first | done | rfl | (simp only [List.length_drop, List.length_take]; rfl)) ?_); (with_reducible refine (grammar_Same.calls k _ _ t200 _ _ t203 _ _ t206 _ _ t209 _ _ t212 _ _ t224 _ _ t227 _ _ t230 _ _ t233 _ _ t236 true _ ?side1 ?side2 ?side3 ?side4 ?side5 ?side6 ?side7 ?side8 ?side9 ?side10 ?side11 ?side12 ?side13 ?side14 ?side15 ?side16 ?side17 ?side18 ?side19 ?side20 A12.out).mono ?_); ((case side1 => repeat (first | exact (Kd.R_reads' HO202.out).2.2 | (with_reducible refine Kd.C_alloc ?_ _) | (with_reducible refine Kd.C_drewN ?_ _) | (with_reducible refine Kd.C_drew ?_)))); ((case side2 => exact (Kd.R_reads' HO202.out).2.1)); ((case side3 => repeat (first | exact (Kd.R_reads' HO205.out).2.2 | (with_reducible refine Kd.C_alloc ?_ _) | (with_reducible refine Kd.C_drewN ?_ _) | (with_reducible refine Kd.C_drew ?_)))); ((case side4 => exact (Kd.R_reads' HO205.out).2.1)); ((case side5 => repeat (first | exact (Kd.R_reads' HO208.out).2.2 | (with_reducible refine Kd.C_alloc ?_ _) | (with_reducible refine Kd.C_drewN ?_ _) | (with_reducible refine Kd.C_drew ?_)))); ((case side6 => exact (Kd.R_reads' HO208.out).2.1)); ((case side7 => repeat (first | exact (Kd.N_reads' HO211.out).2.2 | (with_reducible refine Kd.C_alloc ?_ _) | (with_reducible refine Kd.C_drewN ?_ _) | (with_reducible refine Kd.C_drew ?_)))); ((case side8 => exact (Kd.N_reads' HO211.out).2.1)); ((case side9 => repeat (first | exact (Kd.N_reads' HO214.out).2.2 | (with_reducible refine Kd.C_alloc ?_ _) | (with_reducible refine Kd.C_drewN ?_ _) | (with_reducible refine Kd.C_drew ?_)))); ((case side10 => exact (Kd.N_reads' HO214.out).2.1)); ((case side11 => repeat (first | exact (Kd.R_reads' HO226.out).2.2 | (with_reducible refine Kd.C_alloc ?_ _) | (with_reducible refine Kd.C_drewN ?_ _) | (with_reducible refine Kd.C_drew ?_)))); ((case side12 => exact (Kd.R_reads' HO226.out).2.1)); ((case side13 => repeat (first | exact (Kd.R_reads' HO229.out).2.2 | (with_reducible refine Kd.C_alloc ?_ _) | (with_reducible refine Kd.C_drewN ?_ _) | (with_reducible refine Kd.C_drew ?_)))); ((case side14 => exact (Kd.R_reads' HO229.out).2.1))
        ((case side15 => repeat (first | exact (Kd.R_reads' HO232.out).2.2 | (with_reducible refine Kd.C_alloc ?_ _) | (with_reducible refine Kd.C_drewN ?_ _) | (with_reducible refine Kd.C_drew ?_)))); ((case side16 => exact (Kd.R_reads' HO232.out).2.1)); ((case side17 => repeat (first | exact (Kd.N_reads' HO235.out).2.2 | (with_reducible refine Kd.C_alloc ?_ _) | (with_reducible refine Kd.C_drewN ?_ _) | (with_reducible refine Kd.C_drew ?_)))); ((case side18 => exact (Kd.N_reads' HO235.out).2.1)); ((case side19 => repeat (first | exact (Kd.N_reads' HO238.out).2.2 | (with_reducible refine Kd.C_alloc ?_ _) | (with_reducible refine Kd.C_drewN ?_ _) | (with_reducible refine Kd.C_drew ?_)))); ((case side20 => exact (Kd.N_reads' HO238.out).2.1)); (rintro e w40 ⟨rfl, hb⟩); (refine ⟨_, rfl, ?_⟩); (have n0_ := qM (Kd.R_below (by (with_reducible repeat (first | apply Kd.R_alloc | apply Kd.R_drewN | apply Kd.R_drew)); exact HO202.out) hb)); (have n1_ := qM (Kd.R_below (by (with_reducible repeat (first | apply Kd.R_alloc | apply Kd.R_drewN | apply Kd.R_drew)); exact HO205.out) hb)); (have n2_ := qM (Kd.R_below (by (with_reducible repeat (first | apply Kd.R_alloc | apply Kd.R_drewN | apply Kd.R_drew)); exact HO208.out) hb)); (have n3_ := qM (Kd.N_below (by (with_reducible repeat (first | apply Kd.N_alloc | apply Kd.N_drewN | apply Kd.N_drew)); exact HO211.out) hb)); (have n4_ := qM (Kd.N_below (by (with_reducible repeat (first | apply Kd.N_alloc | apply Kd.N_drewN | apply Kd.N_drew)); exact HO214.out) hb)); (have n5_ := qM (Kd.R_below (by (with_reducible repeat (first | apply Kd.R_alloc | apply Kd.R_drewN | apply Kd.R_drew)); exact HO222.out) hb)); (have n6_ := qM (Kd.R_below (by (with_reducible repeat (first | apply Kd.R_alloc | apply Kd.R_drewN | apply Kd.R_drew)); exact HO226.out) hb)); (have n7_ := qM (Kd.R_below (by (with_reducible repeat (first | apply Kd.R_alloc | apply Kd.R_drewN | apply Kd.R_drew)); exact HO229.out) hb)); (have n8_ := qM (Kd.R_below (by (with_reducible repeat (first | apply Kd.R_alloc | apply Kd.R_drewN | apply Kd.R_drew)); exact HO232.out) hb)); (have n9_ := qM (Kd.N_below (by (with_reducible repeat (first | apply Kd.N_alloc | apply Kd.N_drewN | apply Kd.N_drew)); exact HO235.out) hb)); (have n10_ := qM (Kd.N_below (by (with_reducible repeat (first | apply Kd.N_alloc | apply Kd.N_drewN | apply Kd.N_drew)); exact HO238.out) hb)); (have n11_ := qM (qb (g := gb215) (o := .cells #[.slice Ao20 t200.length co20, .slice Ao22 t203.length co22, .slice Ao23 t206.length co23, .slice Ao24 t209.length co24, .slice Ao25 t212.length co25] 27 (0, 0)) (by (with_reducible repeat (first | refine qn ?_ _ | refine qd ?_ | refine qa ?_ _)); exact BK215.out) hb))
        (have n12_ := qM (qP (by repeat (first | (with_reducible first | exact HB.out | apply qA | apply qN | apply qD | refine qS ?_ GE215.out) | exact HB.out)) hb)); clear HO202 HO205 HO208 HO211 HO214 HO222 HO226 HO229 HO232 HO235 HO238 BK215 HB; (have HO202 := n0_); (have HO205 := n1_); (have HO208 := n2_); (have HO211 := n3_); (have HO214 := n4_); (have HO222 := n5_); (have HO226 := n6_); (have HO229 := n7_); (have HO232 := n8_); (have HO235 := n9_); (have HO238 := n10_); (have BK215 := n11_); (have HB := n12_); clear n0_ n1_ n2_ n3_ n4_ n5_ n6_ n7_ n8_ n9_ n10_ n11_ n12_; ((try clear hb)); ((try clear hb2)); ((try clear hk)); ((try clear hi)); (refine hK.out _ _ ⟨(blk_cell BK215.out 0).trans rfl, (blk_cell BK215.out 1).trans rfl, (blk_cell BK215.out 2).trans rfl, (blk_cell BK215.out 3).trans rfl, (blk_cell BK215.out 4).trans rfl⟩ (fun hHeld => ?_)); clear hK K; (refine norm_ (a' := ?_) ?_ ?_); rotate_left; ((show Act.put _ (some 34) _ = _; simp only [Act.put, List.setIfInBounds_toArray, List.set_cons_zero, List.set_cons_succ, i64_w, i32_w]; rfl)); (refine pure_ (i := 25) (N := some 35) (v := ?_) (a' := ?_) #[true, true, true, true, true, true, true, true, true, true, true, true, true, true, true, true, true, true, true, true, true, true, true, true, true, true, false, false, false, false, false, false, false, false, false, false, false, false, false] rfl rfl (any_of HT_.out (by kernel_rfl)) (fun _ _ _ h => h) (Or.inl ⟨by rfl, ?_⟩) ?_ ?_); rotate_left; ((intro w'; go_simp; with_reducible rfl)); rotate_left; ((simp only [Act.put, List.setIfInBounds_toArray, List.set_cons_zero, List.set_cons_succ, i64_w, i32_w]; rfl)); (refine pure_ (i := 26) (N := some 36) (v := ?_) (a' := ?_) #[true, true, true, true, true, true, true, true, true, true, true, true, true, true, true, true, true, true, true, true, true, true, true, true, true, true, true, false, false, false, false, false, false, false, false, false, false, false, false] rfl rfl (any_of HT_.out (by kernel_rfl)) (fun _ _ _ h => h) (Or.inl ⟨by rfl, ?_⟩) ?_ ?_); rotate_left; ((intro w'; go_simp; with_reducible rfl)); rotate_left; ((simp only [Act.put, List.setIfInBounds_toArray, List.set_cons_zero, List.set_cons_succ, i64_w, i32_w]; rfl)); (refine pure_ (i := 28) (N := some 38) (v := ?_) (a' := ?_) #[true, true, true, true, true, true, true, true, true, true, true, true, true, true, true, true, true, true, true, true, true, true, true, true, true, true, true, false, true, false, false, false, false, false, false, false, false, false, false] rfl rfl (any_of HT_.out (by kernel_rfl)) (fun _ _ _ h => h) (Or.inl ⟨by rfl, ?_⟩) ?_ ?_)
        rotate_left; ((intro w'; go_simp; with_reducible rfl)); rotate_left; ((simp only [Act.put, List.setIfInBounds_toArray, List.set_cons_zero, List.set_cons_succ, i64_w, i32_w]; rfl)); (refine take_ (i := 27) (N := some 37) (v := ?_) (a' := ?_) #[true, true, true, true, true, true, true, true, true, true, true, true, true, true, true, true, true, true, true, true, true, true, true, true, true, true, true, true, true, false, false, false, false, false, false, false, false, false, false] rfl rfl (take_ofW HT_.out HW_.out (by kernel_rfl)) (fun _ _ _ h => h) (Or.inl ⟨by rfl, ?_⟩) hHeld ?_ ?_); rotate_left
        ·rintro w' ⟨s0, s1, s2, s3, s4⟩
         (go_simp); (with_reducible rfl)
        rotate_left; ((simp only [Act.put, List.setIfInBounds_toArray, List.set_cons_zero, List.set_cons_succ, i64_w, i32_w]; rfl)); (refine one_ (i := 29) (N := some 39) #[true, true, true, true, true, true, true, true, true, true, true, true, true, true, true, true, true, true, true, true, true, true, true, true, true, true, true, true, true, true, false, false, false, false, false, false, false, false, false] rfl rfl (one_of HT_.out (by kernel_rfl)) (by decide) (fun K hK => ?_)); (refine goes_ Tryd.func24 (by kernel_rfl) rfl #[.agg #[.slice Ao20 t200.length co20, .slice Ao22 t203.length co22, .slice Ao23 t206.length co23, .slice Ao24 t209.length co24, .slice Ao25 t212.length co25], .agg #[.slice none 0 0, .slice none 0 0, .slice none 0 0, .slice none 0 0, .slice none 0 0]] (by rfl) rfl rfl (by (try simp only [List.map_toArray, List.map_cons, List.map_nil]); first | done | rfl | (simp only [List.length_drop, List.length_take]; rfl)) ?_); (refine (grammar_Same.calls k _ _ t200 _ _ t203 _ _ t206 _ _ t209 _ _ t212 _ _ ([] : List ByteArray) _ _ ([] : List ByteArray) _ _ ([] : List Int) _ _ ([] : List (S43)) _ _ ([] : List (S46)) false _ ?side1 ?side2 ?side3 ?side4 ?side5 ?side6 ?side7 ?side8 ?side9 ?side10 ?side11 ?side12 ?side13 ?side14 ?side15 ?side16 ?side17 ?side18 ?side19 ?side20 A14.out).mono ?_); ((case side1 => repeat (first | exact (Kd.R_reads' HO202.out).2.2 | (with_reducible refine Kd.C_alloc ?_ _) | (with_reducible refine Kd.C_drewN ?_ _) | (with_reducible refine Kd.C_drew ?_)))); ((case side2 => exact (Kd.R_reads' HO202.out).2.1)); ((case side3 => repeat (first | exact (Kd.R_reads' HO205.out).2.2 | (with_reducible refine Kd.C_alloc ?_ _) | (with_reducible refine Kd.C_drewN ?_ _) | (with_reducible refine Kd.C_drew ?_)))); ((case side4 => exact (Kd.R_reads' HO205.out).2.1)); ((case side5 => repeat (first | exact (Kd.R_reads' HO208.out).2.2 | (with_reducible refine Kd.C_alloc ?_ _) | (with_reducible refine Kd.C_drewN ?_ _) | (with_reducible refine Kd.C_drew ?_)))); ((case side6 => exact (Kd.R_reads' HO208.out).2.1)); ((case side7 => repeat (first | exact (Kd.N_reads' HO211.out).2.2 | (with_reducible refine Kd.C_alloc ?_ _) | (with_reducible refine Kd.C_drewN ?_ _) | (with_reducible refine Kd.C_drew ?_)))); ((case side8 => exact (Kd.N_reads' HO211.out).2.1)); ((case side9 => repeat (first | exact (Kd.N_reads' HO214.out).2.2 | (with_reducible refine Kd.C_alloc ?_ _) | (with_reducible refine Kd.C_drewN ?_ _) | (with_reducible refine Kd.C_drew ?_)))); ((case side10 => exact (Kd.N_reads' HO214.out).2.1))
        ((case side11 => exact Kd.C_nil _ _)); ((case side12 => exact Nat.le_refl _)); ((case side13 => exact Kd.C_nil _ _)); ((case side14 => exact Nat.le_refl _)); ((case side15 => exact Kd.C_nil _ _)); ((case side16 => exact Nat.le_refl _)); ((case side17 => exact Kd.C_nil _ _)); ((case side18 => exact Nat.le_refl _)); ((case side19 => exact Kd.C_nil _ _)); ((case side20 => exact Nat.le_refl _)); (rintro e w41 ⟨rfl, hb⟩); (refine ⟨_, rfl, ?_⟩); (have n0_ := qM (Kd.R_below (by (with_reducible repeat (first | apply Kd.R_alloc | apply Kd.R_drewN | apply Kd.R_drew)); exact HO202.out) hb)); (have n1_ := qM (Kd.R_below (by (with_reducible repeat (first | apply Kd.R_alloc | apply Kd.R_drewN | apply Kd.R_drew)); exact HO205.out) hb)); (have n2_ := qM (Kd.R_below (by (with_reducible repeat (first | apply Kd.R_alloc | apply Kd.R_drewN | apply Kd.R_drew)); exact HO208.out) hb)); (have n3_ := qM (Kd.N_below (by (with_reducible repeat (first | apply Kd.N_alloc | apply Kd.N_drewN | apply Kd.N_drew)); exact HO211.out) hb)); (have n4_ := qM (Kd.N_below (by (with_reducible repeat (first | apply Kd.N_alloc | apply Kd.N_drewN | apply Kd.N_drew)); exact HO214.out) hb)); (have n5_ := qM (Kd.R_below (by (with_reducible repeat (first | apply Kd.R_alloc | apply Kd.R_drewN | apply Kd.R_drew)); exact HO222.out) hb)); (have n6_ := qM (Kd.R_below (by (with_reducible repeat (first | apply Kd.R_alloc | apply Kd.R_drewN | apply Kd.R_drew)); exact HO226.out) hb)); (have n7_ := qM (Kd.R_below (by (with_reducible repeat (first | apply Kd.R_alloc | apply Kd.R_drewN | apply Kd.R_drew)); exact HO229.out) hb)); (have n8_ := qM (Kd.R_below (by (with_reducible repeat (first | apply Kd.R_alloc | apply Kd.R_drewN | apply Kd.R_drew)); exact HO232.out) hb)); (have n9_ := qM (Kd.N_below (by (with_reducible repeat (first | apply Kd.N_alloc | apply Kd.N_drewN | apply Kd.N_drew)); exact HO235.out) hb)); (have n10_ := qM (Kd.N_below (by (with_reducible repeat (first | apply Kd.N_alloc | apply Kd.N_drewN | apply Kd.N_drew)); exact HO238.out) hb)); (have n11_ := qM (qb (g := gb215) (o := .cells #[.slice Ao20 t200.length co20, .slice Ao22 t203.length co22, .slice Ao23 t206.length co23, .slice Ao24 t209.length co24, .slice Ao25 t212.length co25] 27 (0, 0)) (by (with_reducible repeat (first | refine qn ?_ _ | refine qd ?_ | refine qa ?_ _)); exact BK215.out) hb)); (have n12_ := qM (qP (by repeat (first | (with_reducible first | exact HB.out | apply qA | apply qN | apply qD | refine qS ?_ GE215.out) | exact HB.out)) hb))
        clear HO202 HO205 HO208 HO211 HO214 HO222 HO226 HO229 HO232 HO235 HO238 BK215 HB; (have HO202 := n0_); (have HO205 := n1_); (have HO208 := n2_); (have HO211 := n3_); (have HO214 := n4_); (have HO222 := n5_); (have HO226 := n6_); (have HO229 := n7_); (have HO232 := n8_); (have HO235 := n9_); (have HO238 := n10_); (have BK215 := n11_); (have HB := n12_); clear n0_ n1_ n2_ n3_ n4_ n5_ n6_ n7_ n8_ n9_ n10_ n11_ n12_; ((try clear hb)); ((try clear hb2)); ((try clear hk)); ((try clear hi)); (refine hK.out _ _ ⟨(blk_cell BK215.out 0).trans rfl, (blk_cell BK215.out 1).trans rfl, (blk_cell BK215.out 2).trans rfl, (blk_cell BK215.out 3).trans rfl, (blk_cell BK215.out 4).trans rfl⟩ (fun hHeld => ?_)); clear hK K; (refine norm_ (a' := ?_) ?_ ?_); rotate_left; ((show Act.put _ (some 39) _ = _; simp only [Act.put, List.setIfInBounds_toArray, List.set_cons_zero, List.set_cons_succ, i64_w, i32_w]; rfl)); (refine pure_ (i := 30) (N := some 40) (v := ?_) (a' := ?_) #[true, true, true, true, true, true, true, true, true, true, true, true, true, true, true, true, true, true, true, true, true, true, true, true, true, true, true, true, true, true, true, false, false, false, false, false, false, false, false] rfl rfl (any_of HT_.out (by kernel_rfl)) (fun _ _ _ h => h) (Or.inl ⟨by rfl, ?_⟩) ?_ ?_); rotate_left; ((intro w'; go_simp; with_reducible rfl)); rotate_left; ((simp only [Act.put, List.setIfInBounds_toArray, List.set_cons_zero, List.set_cons_succ, i64_w, i32_w]; rfl)); (refine pure_ (i := 31) (N := some 41) (v := ?_) (a' := ?_) #[true, true, true, true, true, true, true, true, true, true, true, true, true, true, true, true, true, true, true, true, true, true, true, true, true, true, true, true, true, true, true, true, false, false, false, false, false, false, false] rfl rfl (any_of HT_.out (by kernel_rfl)) (fun _ _ _ h => h) (Or.inl ⟨by rfl, ?_⟩) ?_ ?_); rotate_left; ((intro w'; go_simp; with_reducible rfl)); rotate_left; ((simp only [Act.put, List.setIfInBounds_toArray, List.set_cons_zero, List.set_cons_succ, i64_w, i32_w]; rfl)); (refine pure_ (i := 32) (N := some 42) (v := ?_) (a' := ?_) #[true, true, true, true, true, true, true, true, true, true, true, true, true, true, true, true, true, true, true, true, true, true, true, true, true, true, true, true, true, true, true, true, true, false, false, false, false, false, false] rfl rfl (any_of HT_.out (by kernel_rfl)) (fun _ _ _ h => h) (Or.inl ⟨by rfl, ?_⟩) ?_ ?_); rotate_left; ((intro w'; go_simp; with_reducible rfl)); rotate_left; ((simp only [Act.put, List.setIfInBounds_toArray, List.set_cons_zero, List.set_cons_succ, i64_w, i32_w]; rfl))
        (refine take_ (i := 33) (N := some 43) (v := ?_) (a' := ?_) #[true, true, true, true, true, true, true, true, true, true, true, true, true, true, true, true, true, true, true, true, true, true, true, true, true, true, true, true, true, true, true, true, true, true, false, false, false, false, false] rfl rfl (take_ofW HT_.out HW_.out (by kernel_rfl)) (fun _ _ _ h => h) (Or.inl ⟨by rfl, ?_⟩) hHeld ?_ ?_); rotate_left
        ·rintro w' ⟨s0, s1, s2, s3, s4⟩
         (go_simp); (with_reducible rfl)
        rotate_left; ((simp only [Act.put, List.setIfInBounds_toArray, List.set_cons_zero, List.set_cons_succ, i64_w, i32_w]; rfl))
        refine join_ (σ := Value × Value) 3 #[true, true, true, true, true, true, true, true, true, true, true, true, true, true, true, true, true, true, true, true, true, true, true, true, true, true, true, true, true, true, true, true, true, true, true, true, false, false, false] (fun s_ => [(44, s_.1), (45, s_.2)]) (fun s_ w' => (w'.cell? ⟨gb215, 0, none⟩ = some (.slice Ao20 t200.length co20) ∧ w'.cell? ⟨gb215, 1, none⟩ = some (.slice Ao22 t203.length co22) ∧ w'.cell? ⟨gb215, 2, none⟩ = some (.slice Ao23 t206.length co23) ∧ w'.cell? ⟨gb215, 3, none⟩ = some (.slice Ao24 t209.length co24) ∧ w'.cell? ⟨gb215, 4, none⟩ = some (.slice Ao25 t212.length co25)) ∧ (Kd.R Kd.string 9 w' w.heap.size (fun k_ => some k_ ≠ (.slice Ao22 t203.length co22 : Value).ownBlock ∧ some k_ ≠ (.slice Ao35 t224.length co35 : Value).ownBlock ∧ some k_ ≠ (.slice Ao36 t227.length co36 : Value).ownBlock) (.slice Ao20 t200.length co20) t200) ∧ (Kd.R Kd.string 9 w' w.heap.size (fun k_ => some k_ ≠ (.slice Ao20 t200.length co20 : Value).ownBlock ∧ some k_ ≠ (.slice Ao35 t224.length co35 : Value).ownBlock ∧ some k_ ≠ (.slice Ao36 t227.length co36 : Value).ownBlock) (.slice Ao22 t203.length co22) t203) ∧ (Kd.R (Kd.int .i64) 66 w' w.heap.size (fun k_ => some k_ ≠ (.slice Ao37 t230.length co37 : Value).ownBlock) (.slice Ao23 t206.length co23) t206) ∧ (Kd.N k43 43 w' w.heap.size (fun k_ => some k_ ≠ (.slice Ao20 t200.length co20 : Value).ownBlock ∧ some k_ ≠ (.slice Ao22 t203.length co22 : Value).ownBlock ∧ some k_ ≠ (.slice Ao23 t206.length co23 : Value).ownBlock ∧ some k_ ≠ (.slice Ao25 t212.length co25 : Value).ownBlock ∧ some k_ ≠ (.slice Ao32 y220.length co32 : Value).ownBlock ∧ some k_ ≠ (.slice Ao35 t224.length co35 : Value).ownBlock ∧ some k_ ≠ (.slice Ao36 t227.length co36 : Value).ownBlock ∧ some k_ ≠ (.slice Ao37 t230.length co37 : Value).ownBlock ∧ some k_ ≠ (.slice Ao38 t233.length co38 : Value).ownBlock ∧ some k_ ≠ (.slice Ao39 t236.length co39 : Value).ownBlock ∧ some k_ ≠ (s_.1 : Value).ownBlock ∧ some k_ ≠ (s_.2 : Value).ownBlock ∧ k_ ≠ gb215) (.slice Ao24 t209.length co24) t209) ∧ (Kd.N k46 46 w' w.heap.size (fun k_ => some k_ ≠ (.slice Ao20 t200.length co20 : Value).ownBlock ∧ some k_ ≠ (.slice Ao22 t203.length co22 : Value).ownBlock ∧ some k_ ≠ (.slice Ao23 t206.length co23 : Value).ownBlock ∧ some k_ ≠ (.slice Ao24 t209.length co24 : Value).ownBlock ∧ some k_ ≠ (.slice Ao32 y220.length co32 : Value).ownBlock ∧ some k_ ≠ (.slice Ao35 t224.length co35 : Value).ownBlock ∧ some k_ ≠ (.slice Ao36 t227.length co36 : Value).ownBlock ∧ some k_ ≠ (.slice Ao37 t230.length co37 : Value).ownBlock ∧ some k_ ≠ (.slice Ao38 t233.length co38 : Value).ownBlock ∧ some k_ ≠ (.slice Ao39 t236.length co39 : Value).ownBlock ∧ some k_ ≠ (s_.1 : Value).ownBlock ∧ some k_ ≠ (s_.2 : Value).ownBlock ∧ k_ ≠ gb215) (.slice Ao25 t212.length co25) t212) ∧ (Kd.R (Kd.int .i64) 3 w' w.heap.size (fun k_ => some k_ ≠ (s_.1 : Value).ownBlock ∧ some k_ ≠ (s_.2 : Value).ownBlock) (.slice Ao32 y220.length co32) y220) ∧ (Kd.R Kd.string 9 w' w.heap.size (fun k_ => some k_ ≠ (.slice Ao20 t200.length co20 : Value).ownBlock ∧ some k_ ≠ (.slice Ao22 t203.length co22 : Value).ownBlock ∧ some k_ ≠ (.slice Ao36 t227.length co36 : Value).ownBlock) (.slice Ao35 t224.length co35) t224) ∧ (Kd.R Kd.string 9 w' w.heap.size (fun k_ => some k_ ≠ (.slice Ao20 t200.length co20 : Value).ownBlock ∧ some k_ ≠ (.slice Ao22 t203.length co22 : Value).ownBlock ∧ some k_ ≠ (.slice Ao35 t224.length co35 : Value).ownBlock) (.slice Ao36 t227.length co36) t227) ∧ (Kd.R (Kd.int .i64) 66 w' w.heap.size (fun k_ => some k_ ≠ (.slice Ao23 t206.length co23 : Value).ownBlock) (.slice Ao37 t230.length co37) t230) ∧ (Kd.N k43 43 w' w.heap.size (fun k_ => some k_ ≠ (.slice Ao20 t200.length co20 : Value).ownBlock ∧ some k_ ≠ (.slice Ao22 t203.length co22 : Value).ownBlock ∧ some k_ ≠ (.slice Ao23 t206.length co23 : Value).ownBlock ∧ some k_ ≠ (.slice Ao24 t209.length co24 : Value).ownBlock ∧ some k_ ≠ (.slice Ao25 t212.length co25 : Value).ownBlock ∧ some k_ ≠ (.slice Ao32 y220.length co32 : Value).ownBlock ∧ some k_ ≠ (.slice Ao35 t224.length co35 : Value).ownBlock ∧ some k_ ≠ (.slice Ao36 t227.length co36 : Value).ownBlock ∧ some k_ ≠ (.slice Ao37 t230.length co37 : Value).ownBlock ∧ some k_ ≠ (.slice Ao39 t236.length co39 : Value).ownBlock ∧ some k_ ≠ (s_.1 : Value).ownBlock ∧ some k_ ≠ (s_.2 : Value).ownBlock ∧ k_ ≠ gb215) (.slice Ao38 t233.length co38) t233) ∧ (Kd.N k46 46 w' w.heap.size (fun k_ => some k_ ≠ (.slice Ao20 t200.length co20 : Value).ownBlock ∧ some k_ ≠ (.slice Ao22 t203.length co22 : Value).ownBlock ∧ some k_ ≠ (.slice Ao23 t206.length co23 : Value).ownBlock ∧ some k_ ≠ (.slice Ao24 t209.length co24 : Value).ownBlock ∧ some k_ ≠ (.slice Ao25 t212.length co25 : Value).ownBlock ∧ some k_ ≠ (.slice Ao32 y220.length co32 : Value).ownBlock ∧ some k_ ≠ (.slice Ao35 t224.length co35 : Value).ownBlock ∧ some k_ ≠ (.slice Ao36 t227.length co36 : Value).ownBlock ∧ some k_ ≠ (.slice Ao37 t230.length co37 : Value).ownBlock ∧ some k_ ≠ (.slice Ao38 t233.length co38 : Value).ownBlock ∧ some k_ ≠ (s_.1 : Value).ownBlock ∧ some k_ ≠ (s_.2 : Value).ownBlock ∧ k_ ≠ gb215) (.slice Ao39 t236.length co39) t236) ∧ (Kd.R (Kd.int .i64) 3 w' w.heap.size (fun k_ => some k_ ≠ (.slice Ao32 y220.length co32 : Value).ownBlock ∧ some k_ ≠ (s_.2 : Value).ownBlock) s_.1 t241) ∧ (Kd.R (Kd.int .i64) 3 w' w.heap.size (fun k_ => some k_ ≠ (.slice Ao32 y220.length co32 : Value).ownBlock ∧ some k_ ≠ (s_.1 : Value).ownBlock) s_.2 y244) ∧ (w'.heap[gb215]? = some (.cells #[.slice Ao20 t200.length co20, .slice Ao22 t203.length co22, .slice Ao23 t206.length co23, .slice Ao24 t209.length co24, .slice Ao25 t212.length co25] 27 (0, 0))) ∧ (Below w.heap.size w w')) ?_ ?_
        rotate_left
        ·intro hCont
         refine two_ (i := 34) (j := 35) (Ni := some 44) (Nj := some 45) #[true, true, true, true, true, true, true, true, true, true, true, true, true, true, true, true, true, true, true, true, true, true, true, true, true, true, true, true, true, true, true, true, true, true, true, false, false, false, false] #[true, true, true, true, true, true, true, true, true, true, true, true, true, true, true, true, true, true, true, true, true, true, true, true, true, true, true, true, true, true, true, true, true, true, false, true, false, false, false] rfl rfl rfl rfl (two_of HT_.out (by kernel_rfl)) (by decide) (by decide) (fun K hK => ?_) (fun K hK => ?_)
         ·skip
          (refine goes_ Tryd.func21 (by kernel_rfl) rfl #[.agg #[.slice Ao20 t200.length co20, .slice Ao22 t203.length co22, .slice Ao23 t206.length co23, .slice Ao24 t209.length co24, .slice Ao25 t212.length co25], .int .i64 1] (by rfl) rfl rfl (by (try simp only [List.map_toArray, List.map_cons, List.map_nil]); first | done | rfl | (simp only [List.length_drop, List.length_take]; rfl)) ?_); (with_reducible refine (grammar_Of.calls k _ _ t200 _ _ t203 _ _ t206 _ _ t209 _ _ t212 1 t241 _ ?side1 ?side2 ?side3 ?side4 ?side5 ?side6 ?side7 ?side8 ?side9 ?side10 A16.out).mono ?_); ((case side1 => repeat (first | exact (Kd.R_reads' HO202.out).2.2 | (with_reducible refine Kd.C_alloc ?_ _) | (with_reducible refine Kd.C_drewN ?_ _) | (with_reducible refine Kd.C_drew ?_)))); ((case side2 => exact (Kd.R_reads' HO202.out).2.1)); ((case side3 => repeat (first | exact (Kd.R_reads' HO205.out).2.2 | (with_reducible refine Kd.C_alloc ?_ _) | (with_reducible refine Kd.C_drewN ?_ _) | (with_reducible refine Kd.C_drew ?_)))); ((case side4 => exact (Kd.R_reads' HO205.out).2.1)); ((case side5 => repeat (first | exact (Kd.R_reads' HO208.out).2.2 | (with_reducible refine Kd.C_alloc ?_ _) | (with_reducible refine Kd.C_drewN ?_ _) | (with_reducible refine Kd.C_drew ?_)))); ((case side6 => exact (Kd.R_reads' HO208.out).2.1)); ((case side7 => repeat (first | exact (Kd.N_reads' HO211.out).2.2 | (with_reducible refine Kd.C_alloc ?_ _) | (with_reducible refine Kd.C_drewN ?_ _) | (with_reducible refine Kd.C_drew ?_)))); ((case side8 => exact (Kd.N_reads' HO211.out).2.1)); ((case side9 => repeat (first | exact (Kd.N_reads' HO214.out).2.2 | (with_reducible refine Kd.C_alloc ?_ _) | (with_reducible refine Kd.C_drewN ?_ _) | (with_reducible refine Kd.C_drew ?_)))); ((case side10 => exact (Kd.N_reads' HO214.out).2.1)); (rintro e w42 ⟨v242, rfl, ho0, hb⟩); (refine ⟨_, rfl, ?_⟩); (have n0_ := qM (Kd.R_below (by (with_reducible repeat (first | apply Kd.R_alloc | apply Kd.R_drewN | apply Kd.R_drew)); exact HO202.out) hb)); (have n1_ := qM (Kd.R_below (by (with_reducible repeat (first | apply Kd.R_alloc | apply Kd.R_drewN | apply Kd.R_drew)); exact HO205.out) hb)); (have n2_ := qM (Kd.R_below (by (with_reducible repeat (first | apply Kd.R_alloc | apply Kd.R_drewN | apply Kd.R_drew)); exact HO208.out) hb)); (have n3_ := qM (Kd.N_elder' (by (with_reducible repeat (first | apply Kd.N_alloc | apply Kd.N_drewN | apply Kd.N_drew)); exact HO211.out) (Kd.R_base ho0) hb)); (have n4_ := qM (Kd.N_elder' (by (with_reducible repeat (first | apply Kd.N_alloc | apply Kd.N_drewN | apply Kd.N_drew)); exact HO214.out) (Kd.R_base ho0) hb))
          (have n5_ := qM (Kd.R_elder' (by (with_reducible repeat (first | apply Kd.R_alloc | apply Kd.R_drewN | apply Kd.R_drew)); exact HO222.out) (Kd.R_base ho0) hb)); (have n6_ := qM (Kd.R_below (by (with_reducible repeat (first | apply Kd.R_alloc | apply Kd.R_drewN | apply Kd.R_drew)); exact HO226.out) hb)); (have n7_ := qM (Kd.R_below (by (with_reducible repeat (first | apply Kd.R_alloc | apply Kd.R_drewN | apply Kd.R_drew)); exact HO229.out) hb)); (have n8_ := qM (Kd.R_below (by (with_reducible repeat (first | apply Kd.R_alloc | apply Kd.R_drewN | apply Kd.R_drew)); exact HO232.out) hb)); (have n9_ := qM (Kd.N_elder' (by (with_reducible repeat (first | apply Kd.N_alloc | apply Kd.N_drewN | apply Kd.N_drew)); exact HO235.out) (Kd.R_base ho0) hb)); (have n10_ := qM (Kd.N_elder' (by (with_reducible repeat (first | apply Kd.N_alloc | apply Kd.N_drewN | apply Kd.N_drew)); exact HO238.out) (Kd.R_base ho0) hb)); (have n11_ := qM (Kd.R_lower (Kd.R_new' ho0 (Kd.R_lt (by (with_reducible repeat (first | apply Kd.R_alloc | apply Kd.R_drewN | apply Kd.R_drew)); exact HO222.out))) (qZ (by repeat (first | (with_reducible first | exact HB.out | apply qA | apply qN | apply qD | refine qS ?_ GE215.out) | exact HB.out))))); (have n12_ := qM (qb (g := gb215) (o := .cells #[.slice Ao20 t200.length co20, .slice Ao22 t203.length co22, .slice Ao23 t206.length co23, .slice Ao24 t209.length co24, .slice Ao25 t212.length co25] 27 (0, 0)) (by (with_reducible repeat (first | refine qn ?_ _ | refine qd ?_ | refine qa ?_ _)); exact BK215.out) hb)); (have n13_ := qM (qP (by repeat (first | (with_reducible first | exact HB.out | apply qA | apply qN | apply qD | refine qS ?_ GE215.out) | exact HB.out)) hb)); clear HO202 HO205 HO208 HO211 HO214 HO222 HO226 HO229 HO232 HO235 HO238 BK215 HB; (have HO202 := n0_); (have HO205 := n1_); (have HO208 := n2_); (have HO211 := n3_); (have HO214 := n4_); (have HO222 := n5_); (have HO226 := n6_); (have HO229 := n7_); (have HO232 := n8_); (have HO235 := n9_); (have HO238 := n10_); (have HO243 := n11_); (have BK215 := n12_); (have HB := n13_); clear n0_ n1_ n2_ n3_ n4_ n5_ n6_ n7_ n8_ n9_ n10_ n11_ n12_ n13_; ((try clear hb)); ((try clear hb2)); ((try clear hk)); ((try clear hi)); ((try clear ho0)); (refine hK.out _ _ ⟨(blk_cell BK215.out 0).trans rfl, (blk_cell BK215.out 1).trans rfl, (blk_cell BK215.out 2).trans rfl, (blk_cell BK215.out 3).trans rfl, (blk_cell BK215.out 4).trans rfl⟩ (fun hHeld => ?_))
          clear hK K; (refine norm_ (a' := ?_) ?_ ?_); rotate_left; ((show Act.put _ (some 44) _ = _; simp only [Act.put, List.setIfInBounds_toArray, List.set_cons_zero, List.set_cons_succ, i64_w, i32_w]; rfl)); (refine one_ (i := 35) (N := some 45) #[true, true, true, true, true, true, true, true, true, true, true, true, true, true, true, true, true, true, true, true, true, true, true, true, true, true, true, true, true, true, true, true, true, true, true, true, false, false, false] rfl rfl (one_of HT_.out (by kernel_rfl)) (by decide) (fun K hK => ?_)); (refine Kd.R_lit_step (Kd.int .i64) _ 3 ?hg (N := 45) ?hd (xs := ([1, 2] : List Int)) (inner := [.int .i64 1, .int .i64 2]) (ok := fun _ => True) (okp := fun _ => True) ?hr ?hp (fun _ hk => hk) trivial (Below.refl _ _) (Nat.le_refl _) (by simp) ?_; (case hd => rfl); (case hg => rfl); (case hr => first | (go_simp; done) | (go_simp; rfl)); (case hp => exact (Reps.one (show Kd.M (Kd.int .i64) _ _ _ 1 [.int .i64 1] from rfl) (Reps.one (show Kd.M (Kd.int .i64) _ _ _ 2 [.int .i64 2] from rfl) (Reps.none _ _))))); (intro v245 w43 ho44 hb hg_ hnew_); clear hg_ hnew_; ((first | rw [← Ny244.out] at ho44 | (simp only [Int.reduceToNat] at ho44; rw [← Ny244.out] at ho44))); (have n0_ := qM (Kd.R_below (by (with_reducible repeat (first | apply Kd.R_alloc | apply Kd.R_drewN | apply Kd.R_drew)); exact HO202.out) hb)); (have n1_ := qM (Kd.R_below (by (with_reducible repeat (first | apply Kd.R_alloc | apply Kd.R_drewN | apply Kd.R_drew)); exact HO205.out) hb)); (have n2_ := qM (Kd.R_below (by (with_reducible repeat (first | apply Kd.R_alloc | apply Kd.R_drewN | apply Kd.R_drew)); exact HO208.out) hb)); (have n3_ := qM (Kd.N_elder' (by (with_reducible repeat (first | apply Kd.N_alloc | apply Kd.N_drewN | apply Kd.N_drew)); exact HO211.out) (Kd.R_base ho44) hb)); (have n4_ := qM (Kd.N_elder' (by (with_reducible repeat (first | apply Kd.N_alloc | apply Kd.N_drewN | apply Kd.N_drew)); exact HO214.out) (Kd.R_base ho44) hb)); (have n5_ := qM (Kd.R_elder' (by (with_reducible repeat (first | apply Kd.R_alloc | apply Kd.R_drewN | apply Kd.R_drew)); exact HO222.out) (Kd.R_base ho44) hb)); (have n6_ := qM (Kd.R_below (by (with_reducible repeat (first | apply Kd.R_alloc | apply Kd.R_drewN | apply Kd.R_drew)); exact HO226.out) hb)); (have n7_ := qM (Kd.R_below (by (with_reducible repeat (first | apply Kd.R_alloc | apply Kd.R_drewN | apply Kd.R_drew)); exact HO229.out) hb)); (have n8_ := qM (Kd.R_below (by (with_reducible repeat (first | apply Kd.R_alloc | apply Kd.R_drewN | apply Kd.R_drew)); exact HO232.out) hb))
          (have n9_ := qM (Kd.N_elder' (by (with_reducible repeat (first | apply Kd.N_alloc | apply Kd.N_drewN | apply Kd.N_drew)); exact HO235.out) (Kd.R_base ho44) hb)); (have n10_ := qM (Kd.N_elder' (by (with_reducible repeat (first | apply Kd.N_alloc | apply Kd.N_drewN | apply Kd.N_drew)); exact HO238.out) (Kd.R_base ho44) hb)); (have n11_ := qM (Kd.R_elder' (by (with_reducible repeat (first | apply Kd.R_alloc | apply Kd.R_drewN | apply Kd.R_drew)); exact HO243.out) (Kd.R_base ho44) hb)); (have n12_ := qM (Kd.R_lower (Kd.R_new' (Kd.R_new' ho44 (Kd.R_lt (by (with_reducible repeat (first | apply Kd.R_alloc | apply Kd.R_drewN | apply Kd.R_drew)); exact HO222.out))) (Kd.R_lt (by (with_reducible repeat (first | apply Kd.R_alloc | apply Kd.R_drewN | apply Kd.R_drew)); exact HO243.out))) (qZ (by repeat (first | (with_reducible first | exact HB.out | apply qA | apply qN | apply qD | refine qS ?_ GE215.out) | exact HB.out))))); (have n13_ := qM (qb (g := gb215) (o := .cells #[.slice Ao20 t200.length co20, .slice Ao22 t203.length co22, .slice Ao23 t206.length co23, .slice Ao24 t209.length co24, .slice Ao25 t212.length co25] 27 (0, 0)) (by (with_reducible repeat (first | refine qn ?_ _ | refine qd ?_ | refine qa ?_ _)); exact BK215.out) hb)); (have n14_ := qM (qP (by repeat (first | (with_reducible first | exact HB.out | apply qA | apply qN | apply qD | refine qS ?_ GE215.out) | exact HB.out)) hb)); clear HO202 HO205 HO208 HO211 HO214 HO222 HO226 HO229 HO232 HO235 HO238 HO243 BK215 HB; (have HO202 := n0_); (have HO205 := n1_); (have HO208 := n2_); (have HO211 := n3_); (have HO214 := n4_); (have HO222 := n5_); (have HO226 := n6_); (have HO229 := n7_); (have HO232 := n8_); (have HO235 := n9_); (have HO238 := n10_); (have HO243 := n11_); (have HO246 := n12_); (have BK215 := n13_); (have HB := n14_); clear n0_ n1_ n2_ n3_ n4_ n5_ n6_ n7_ n8_ n9_ n10_ n11_ n12_ n13_ n14_ hb ho44; (refine hK.out _ _ ⟨(blk_cell BK215.out 0).trans rfl, (blk_cell BK215.out 1).trans rfl, (blk_cell BK215.out 2).trans rfl, (blk_cell BK215.out 3).trans rfl, (blk_cell BK215.out 4).trans rfl⟩ (fun hHeld => ?_)); clear hK K; (refine norm_ (a' := ?_) ?_ ?_); rotate_left; ((show Act.put _ (some 45) _ = _; simp only [Act.put, List.setIfInBounds_toArray, List.set_cons_zero, List.set_cons_succ, i64_w, i32_w]; rfl))
          exact norm_ (by simp only [putAll, Act.put, List.setIfInBounds_toArray, List.set_cons_zero, List.set_cons_succ]) (hCont (v242, v245) _ ⟨hHeld, (by (with_reducible repeat (first | apply Kd.R_alloc | apply Kd.R_drewN | apply Kd.R_drew)); exact Kd.R_mono HO202.out (fun _ hk => ⟨hk.1.1, ⟨hk.1.2, hk.2⟩⟩)), (by (with_reducible repeat (first | apply Kd.R_alloc | apply Kd.R_drewN | apply Kd.R_drew)); exact Kd.R_mono HO205.out (fun _ hk => ⟨hk.1.1, ⟨hk.1.2, hk.2⟩⟩)), (by (with_reducible repeat (first | apply Kd.R_alloc | apply Kd.R_drewN | apply Kd.R_drew)); exact Kd.R_mono HO208.out (fun _ hk => hk.2)), (by (with_reducible repeat (first | apply Kd.N_alloc | apply Kd.N_drewN | apply Kd.N_drew)); exact Kd.N_mono HO211.out (fun _ hk => ⟨hk.1.1.1.1.1.1.1.1.1.1, ⟨hk.1.1.1.1.1.1.1.1.1.2.1, ⟨hk.1.1.1.1.1.1.1.1.1.2.2.1, ⟨hk.1.1.1.1.1.1.1.1.1.2.2.2, ⟨hk.1.1.1.1.1.1.1.2, ⟨hk.1.1.1.1.1.1.2, ⟨hk.1.1.1.1.1.2, ⟨hk.1.1.1.1.2, ⟨hk.1.1.1.2, ⟨hk.1.1.2, ⟨hk.1.2, ⟨hk.2, hk.1.1.1.1.1.1.1.1.2⟩⟩⟩⟩⟩⟩⟩⟩⟩⟩⟩⟩)), (by (with_reducible repeat (first | apply Kd.N_alloc | apply Kd.N_drewN | apply Kd.N_drew)); exact Kd.N_mono HO214.out (fun _ hk => ⟨hk.1.1.1.1.1.1.1.1.1.1, ⟨hk.1.1.1.1.1.1.1.1.1.2.1, ⟨hk.1.1.1.1.1.1.1.1.1.2.2.1, ⟨hk.1.1.1.1.1.1.1.1.1.2.2.2, ⟨hk.1.1.1.1.1.1.1.2, ⟨hk.1.1.1.1.1.1.2, ⟨hk.1.1.1.1.1.2, ⟨hk.1.1.1.1.2, ⟨hk.1.1.1.2, ⟨hk.1.1.2, ⟨hk.1.2, ⟨hk.2, hk.1.1.1.1.1.1.1.1.2⟩⟩⟩⟩⟩⟩⟩⟩⟩⟩⟩⟩)), (by (with_reducible repeat (first | apply Kd.R_alloc | apply Kd.R_drewN | apply Kd.R_drew)); exact Kd.R_mono HO222.out (fun _ hk => ⟨hk.1.2, hk.2⟩)), (by (with_reducible repeat (first | apply Kd.R_alloc | apply Kd.R_drewN | apply Kd.R_drew)); exact Kd.R_mono HO226.out (fun _ hk => ⟨hk.1.2, ⟨hk.2, hk.1.1⟩⟩)), (by (with_reducible repeat (first | apply Kd.R_alloc | apply Kd.R_drewN | apply Kd.R_drew)); exact Kd.R_mono HO229.out (fun _ hk => ⟨hk.1.2, ⟨hk.2, hk.1.1⟩⟩)), (by (with_reducible repeat (first | apply Kd.R_alloc | apply Kd.R_drewN | apply Kd.R_drew)); exact Kd.R_mono HO232.out (fun _ hk => hk.2)), (by (with_reducible repeat (first | apply Kd.N_alloc | apply Kd.N_drewN | apply Kd.N_drew)); exact Kd.N_mono HO235.out (fun _ hk => ⟨hk.1.1.2.2.2.2.1, ⟨hk.1.1.2.2.2.2.2.1, ⟨hk.1.1.2.2.2.2.2.2.1, ⟨hk.1.1.2.2.2.2.2.2.2.1, ⟨hk.1.1.2.2.2.2.2.2.2.2.1, ⟨hk.1.1.2.2.2.2.2.2.2.2.2.1, ⟨hk.1.1.1, ⟨hk.1.1.2.1, ⟨hk.1.1.2.2.1, ⟨hk.1.1.2.2.2.1, ⟨hk.1.2, ⟨hk.2, hk.1.1.2.2.2.2.2.2.2.2.2.2⟩⟩⟩⟩⟩⟩⟩⟩⟩⟩⟩⟩)), (by (with_reducible repeat (first | apply Kd.N_alloc | apply Kd.N_drewN | apply Kd.N_drew)); exact Kd.N_mono HO238.out (fun _ hk => ⟨hk.1.1.2.2.2.2.1, ⟨hk.1.1.2.2.2.2.2.1, ⟨hk.1.1.2.2.2.2.2.2.1, ⟨hk.1.1.2.2.2.2.2.2.2.1, ⟨hk.1.1.2.2.2.2.2.2.2.2.1, ⟨hk.1.1.2.2.2.2.2.2.2.2.2.1, ⟨hk.1.1.1, ⟨hk.1.1.2.1, ⟨hk.1.1.2.2.1, ⟨hk.1.1.2.2.2.1, ⟨hk.1.2, ⟨hk.2, hk.1.1.2.2.2.2.2.2.2.2.2.2⟩⟩⟩⟩⟩⟩⟩⟩⟩⟩⟩⟩)), (by (with_reducible repeat (first | apply Kd.R_alloc | apply Kd.R_drewN | apply Kd.R_drew)); exact Kd.R_mono HO243.out (fun _ hk => ⟨hk.1.2, hk.2⟩)), (by (with_reducible repeat (first | apply Kd.R_alloc | apply Kd.R_drewN | apply Kd.R_drew)); exact Kd.R_mono HO246.out (fun _ hk => ⟨hk.1.2, hk.2⟩)), (by (with_reducible repeat (first | refine qn ?_ _ | refine qd ?_ | refine qa ?_ _)); exact BK215.out), (by repeat (first | (with_reducible first | exact HB.out | apply qA | apply qN | apply qD | refine qS ?_ GE215.out) | exact HB.out))⟩)
         ·skip
          (refine Kd.R_lit_step (Kd.int .i64) _ 3 ?hg (N := 45) ?hd (xs := ([1, 2] : List Int)) (inner := [.int .i64 1, .int .i64 2]) (ok := fun _ => True) (okp := fun _ => True) ?hr ?hp (fun _ hk => hk) trivial (Below.refl _ _) (Nat.le_refl _) (by simp) ?_; (case hd => rfl); (case hg => rfl); (case hr => first | (go_simp; done) | (go_simp; rfl)); (case hp => exact (Reps.one (show Kd.M (Kd.int .i64) _ _ _ 1 [.int .i64 1] from rfl) (Reps.one (show Kd.M (Kd.int .i64) _ _ _ 2 [.int .i64 2] from rfl) (Reps.none _ _))))); (intro v245 w42 ho43 hb hg_ hnew_); clear hg_ hnew_; ((first | rw [← Ny244.out] at ho43 | (simp only [Int.reduceToNat] at ho43; rw [← Ny244.out] at ho43))); (have n0_ := qM (Kd.R_below (by (with_reducible repeat (first | apply Kd.R_alloc | apply Kd.R_drewN | apply Kd.R_drew)); exact HO202.out) hb)); (have n1_ := qM (Kd.R_below (by (with_reducible repeat (first | apply Kd.R_alloc | apply Kd.R_drewN | apply Kd.R_drew)); exact HO205.out) hb)); (have n2_ := qM (Kd.R_below (by (with_reducible repeat (first | apply Kd.R_alloc | apply Kd.R_drewN | apply Kd.R_drew)); exact HO208.out) hb)); (have n3_ := qM (Kd.N_elder' (by (with_reducible repeat (first | apply Kd.N_alloc | apply Kd.N_drewN | apply Kd.N_drew)); exact HO211.out) (Kd.R_base ho43) hb)); (have n4_ := qM (Kd.N_elder' (by (with_reducible repeat (first | apply Kd.N_alloc | apply Kd.N_drewN | apply Kd.N_drew)); exact HO214.out) (Kd.R_base ho43) hb)); (have n5_ := qM (Kd.R_elder' (by (with_reducible repeat (first | apply Kd.R_alloc | apply Kd.R_drewN | apply Kd.R_drew)); exact HO222.out) (Kd.R_base ho43) hb)); (have n6_ := qM (Kd.R_below (by (with_reducible repeat (first | apply Kd.R_alloc | apply Kd.R_drewN | apply Kd.R_drew)); exact HO226.out) hb)); (have n7_ := qM (Kd.R_below (by (with_reducible repeat (first | apply Kd.R_alloc | apply Kd.R_drewN | apply Kd.R_drew)); exact HO229.out) hb)); (have n8_ := qM (Kd.R_below (by (with_reducible repeat (first | apply Kd.R_alloc | apply Kd.R_drewN | apply Kd.R_drew)); exact HO232.out) hb)); (have n9_ := qM (Kd.N_elder' (by (with_reducible repeat (first | apply Kd.N_alloc | apply Kd.N_drewN | apply Kd.N_drew)); exact HO235.out) (Kd.R_base ho43) hb)); (have n10_ := qM (Kd.N_elder' (by (with_reducible repeat (first | apply Kd.N_alloc | apply Kd.N_drewN | apply Kd.N_drew)); exact HO238.out) (Kd.R_base ho43) hb)); (have n11_ := qM (Kd.R_lower (Kd.R_new' ho43 (Kd.R_lt (by (with_reducible repeat (first | apply Kd.R_alloc | apply Kd.R_drewN | apply Kd.R_drew)); exact HO222.out))) (qZ (by repeat (first | (with_reducible first | exact HB.out | apply qA | apply qN | apply qD | refine qS ?_ GE215.out) | exact HB.out)))))
          (have n12_ := qM (qb (g := gb215) (o := .cells #[.slice Ao20 t200.length co20, .slice Ao22 t203.length co22, .slice Ao23 t206.length co23, .slice Ao24 t209.length co24, .slice Ao25 t212.length co25] 27 (0, 0)) (by (with_reducible repeat (first | refine qn ?_ _ | refine qd ?_ | refine qa ?_ _)); exact BK215.out) hb)); (have n13_ := qM (qP (by repeat (first | (with_reducible first | exact HB.out | apply qA | apply qN | apply qD | refine qS ?_ GE215.out) | exact HB.out)) hb)); clear HO202 HO205 HO208 HO211 HO214 HO222 HO226 HO229 HO232 HO235 HO238 BK215 HB; (have HO202 := n0_); (have HO205 := n1_); (have HO208 := n2_); (have HO211 := n3_); (have HO214 := n4_); (have HO222 := n5_); (have HO226 := n6_); (have HO229 := n7_); (have HO232 := n8_); (have HO235 := n9_); (have HO238 := n10_); (have HO246 := n11_); (have BK215 := n12_); (have HB := n13_); clear n0_ n1_ n2_ n3_ n4_ n5_ n6_ n7_ n8_ n9_ n10_ n11_ n12_ n13_ hb ho43; (refine hK.out _ _ ⟨(blk_cell BK215.out 0).trans rfl, (blk_cell BK215.out 1).trans rfl, (blk_cell BK215.out 2).trans rfl, (blk_cell BK215.out 3).trans rfl, (blk_cell BK215.out 4).trans rfl⟩ (fun hHeld => ?_)); clear hK K; (refine norm_ (a' := ?_) ?_ ?_); rotate_left; ((show Act.put _ (some 45) _ = _; simp only [Act.put, List.setIfInBounds_toArray, List.set_cons_zero, List.set_cons_succ, i64_w, i32_w]; rfl)); (refine one_ (i := 34) (N := some 44) #[true, true, true, true, true, true, true, true, true, true, true, true, true, true, true, true, true, true, true, true, true, true, true, true, true, true, true, true, true, true, true, true, true, true, true, true, false, false, false] rfl rfl (one_of HT_.out (by kernel_rfl)) (by decide) (fun K hK => ?_)); (refine goes_ Tryd.func21 (by kernel_rfl) rfl #[.agg #[.slice Ao20 t200.length co20, .slice Ao22 t203.length co22, .slice Ao23 t206.length co23, .slice Ao24 t209.length co24, .slice Ao25 t212.length co25], .int .i64 1] (by rfl) rfl rfl (by (try simp only [List.map_toArray, List.map_cons, List.map_nil]); first | done | rfl | (simp only [List.length_drop, List.length_take]; rfl)) ?_); (with_reducible refine (grammar_Of.calls k _ _ t200 _ _ t203 _ _ t206 _ _ t209 _ _ t212 1 t241 _ ?side1 ?side2 ?side3 ?side4 ?side5 ?side6 ?side7 ?side8 ?side9 ?side10 A16.out).mono ?_); ((case side1 => repeat (first | exact (Kd.R_reads' HO202.out).2.2 | (with_reducible refine Kd.C_alloc ?_ _) | (with_reducible refine Kd.C_drewN ?_ _) | (with_reducible refine Kd.C_drew ?_)))); ((case side2 => exact (Kd.R_reads' HO202.out).2.1))
          ((case side3 => repeat (first | exact (Kd.R_reads' HO205.out).2.2 | (with_reducible refine Kd.C_alloc ?_ _) | (with_reducible refine Kd.C_drewN ?_ _) | (with_reducible refine Kd.C_drew ?_)))); ((case side4 => exact (Kd.R_reads' HO205.out).2.1)); ((case side5 => repeat (first | exact (Kd.R_reads' HO208.out).2.2 | (with_reducible refine Kd.C_alloc ?_ _) | (with_reducible refine Kd.C_drewN ?_ _) | (with_reducible refine Kd.C_drew ?_)))); ((case side6 => exact (Kd.R_reads' HO208.out).2.1)); ((case side7 => repeat (first | exact (Kd.N_reads' HO211.out).2.2 | (with_reducible refine Kd.C_alloc ?_ _) | (with_reducible refine Kd.C_drewN ?_ _) | (with_reducible refine Kd.C_drew ?_)))); ((case side8 => exact (Kd.N_reads' HO211.out).2.1)); ((case side9 => repeat (first | exact (Kd.N_reads' HO214.out).2.2 | (with_reducible refine Kd.C_alloc ?_ _) | (with_reducible refine Kd.C_drewN ?_ _) | (with_reducible refine Kd.C_drew ?_)))); ((case side10 => exact (Kd.N_reads' HO214.out).2.1)); (rintro e w44 ⟨v242, rfl, ho0, hb⟩); (refine ⟨_, rfl, ?_⟩); (have n0_ := qM (Kd.R_below (by (with_reducible repeat (first | apply Kd.R_alloc | apply Kd.R_drewN | apply Kd.R_drew)); exact HO202.out) hb)); (have n1_ := qM (Kd.R_below (by (with_reducible repeat (first | apply Kd.R_alloc | apply Kd.R_drewN | apply Kd.R_drew)); exact HO205.out) hb)); (have n2_ := qM (Kd.R_below (by (with_reducible repeat (first | apply Kd.R_alloc | apply Kd.R_drewN | apply Kd.R_drew)); exact HO208.out) hb)); (have n3_ := qM (Kd.N_elder' (by (with_reducible repeat (first | apply Kd.N_alloc | apply Kd.N_drewN | apply Kd.N_drew)); exact HO211.out) (Kd.R_base ho0) hb)); (have n4_ := qM (Kd.N_elder' (by (with_reducible repeat (first | apply Kd.N_alloc | apply Kd.N_drewN | apply Kd.N_drew)); exact HO214.out) (Kd.R_base ho0) hb)); (have n5_ := qM (Kd.R_elder' (by (with_reducible repeat (first | apply Kd.R_alloc | apply Kd.R_drewN | apply Kd.R_drew)); exact HO222.out) (Kd.R_base ho0) hb)); (have n6_ := qM (Kd.R_below (by (with_reducible repeat (first | apply Kd.R_alloc | apply Kd.R_drewN | apply Kd.R_drew)); exact HO226.out) hb)); (have n7_ := qM (Kd.R_below (by (with_reducible repeat (first | apply Kd.R_alloc | apply Kd.R_drewN | apply Kd.R_drew)); exact HO229.out) hb)); (have n8_ := qM (Kd.R_below (by (with_reducible repeat (first | apply Kd.R_alloc | apply Kd.R_drewN | apply Kd.R_drew)); exact HO232.out) hb)); (have n9_ := qM (Kd.N_elder' (by (with_reducible repeat (first | apply Kd.N_alloc | apply Kd.N_drewN | apply Kd.N_drew)); exact HO235.out) (Kd.R_base ho0) hb))
          (have n10_ := qM (Kd.N_elder' (by (with_reducible repeat (first | apply Kd.N_alloc | apply Kd.N_drewN | apply Kd.N_drew)); exact HO238.out) (Kd.R_base ho0) hb)); (have n11_ := qM (Kd.R_elder' (by (with_reducible repeat (first | apply Kd.R_alloc | apply Kd.R_drewN | apply Kd.R_drew)); exact HO246.out) (Kd.R_base ho0) hb)); (have n12_ := qM (Kd.R_lower (Kd.R_new' (Kd.R_new' ho0 (Kd.R_lt (by (with_reducible repeat (first | apply Kd.R_alloc | apply Kd.R_drewN | apply Kd.R_drew)); exact HO222.out))) (Kd.R_lt (by (with_reducible repeat (first | apply Kd.R_alloc | apply Kd.R_drewN | apply Kd.R_drew)); exact HO246.out))) (qZ (by repeat (first | (with_reducible first | exact HB.out | apply qA | apply qN | apply qD | refine qS ?_ GE215.out) | exact HB.out))))); (have n13_ := qM (qb (g := gb215) (o := .cells #[.slice Ao20 t200.length co20, .slice Ao22 t203.length co22, .slice Ao23 t206.length co23, .slice Ao24 t209.length co24, .slice Ao25 t212.length co25] 27 (0, 0)) (by (with_reducible repeat (first | refine qn ?_ _ | refine qd ?_ | refine qa ?_ _)); exact BK215.out) hb)); (have n14_ := qM (qP (by repeat (first | (with_reducible first | exact HB.out | apply qA | apply qN | apply qD | refine qS ?_ GE215.out) | exact HB.out)) hb)); clear HO202 HO205 HO208 HO211 HO214 HO222 HO226 HO229 HO232 HO235 HO238 HO246 BK215 HB; (have HO202 := n0_); (have HO205 := n1_); (have HO208 := n2_); (have HO211 := n3_); (have HO214 := n4_); (have HO222 := n5_); (have HO226 := n6_); (have HO229 := n7_); (have HO232 := n8_); (have HO235 := n9_); (have HO238 := n10_); (have HO246 := n11_); (have HO243 := n12_); (have BK215 := n13_); (have HB := n14_); clear n0_ n1_ n2_ n3_ n4_ n5_ n6_ n7_ n8_ n9_ n10_ n11_ n12_ n13_ n14_; ((try clear hb)); ((try clear hb2)); ((try clear hk)); ((try clear hi)); ((try clear ho0)); (refine hK.out _ _ ⟨(blk_cell BK215.out 0).trans rfl, (blk_cell BK215.out 1).trans rfl, (blk_cell BK215.out 2).trans rfl, (blk_cell BK215.out 3).trans rfl, (blk_cell BK215.out 4).trans rfl⟩ (fun hHeld => ?_)); clear hK K; (refine norm_ (a' := ?_) ?_ ?_); rotate_left; ((show Act.put _ (some 44) _ = _; simp only [Act.put, List.setIfInBounds_toArray, List.set_cons_zero, List.set_cons_succ, i64_w, i32_w]; rfl))
          exact norm_ (by simp only [putAll, Act.put, List.setIfInBounds_toArray, List.set_cons_zero, List.set_cons_succ]) (hCont (v242, v245) _ ⟨hHeld, (by (with_reducible repeat (first | apply Kd.R_alloc | apply Kd.R_drewN | apply Kd.R_drew)); exact Kd.R_mono HO202.out (fun _ hk => ⟨hk.1.1, ⟨hk.1.2, hk.2⟩⟩)), (by (with_reducible repeat (first | apply Kd.R_alloc | apply Kd.R_drewN | apply Kd.R_drew)); exact Kd.R_mono HO205.out (fun _ hk => ⟨hk.1.1, ⟨hk.1.2, hk.2⟩⟩)), (by (with_reducible repeat (first | apply Kd.R_alloc | apply Kd.R_drewN | apply Kd.R_drew)); exact Kd.R_mono HO208.out (fun _ hk => hk.2)), (by (with_reducible repeat (first | apply Kd.N_alloc | apply Kd.N_drewN | apply Kd.N_drew)); exact Kd.N_mono HO211.out (fun _ hk => ⟨hk.1.1.1.1.1.1.1.1.1.1, ⟨hk.1.1.1.1.1.1.1.1.1.2.1, ⟨hk.1.1.1.1.1.1.1.1.1.2.2.1, ⟨hk.1.1.1.1.1.1.1.1.1.2.2.2, ⟨hk.1.1.1.1.1.1.1.2, ⟨hk.1.1.1.1.1.1.2, ⟨hk.1.1.1.1.1.2, ⟨hk.1.1.1.1.2, ⟨hk.1.1.1.2, ⟨hk.1.1.2, ⟨hk.2, ⟨hk.1.2, hk.1.1.1.1.1.1.1.1.2⟩⟩⟩⟩⟩⟩⟩⟩⟩⟩⟩⟩)), (by (with_reducible repeat (first | apply Kd.N_alloc | apply Kd.N_drewN | apply Kd.N_drew)); exact Kd.N_mono HO214.out (fun _ hk => ⟨hk.1.1.1.1.1.1.1.1.1.1, ⟨hk.1.1.1.1.1.1.1.1.1.2.1, ⟨hk.1.1.1.1.1.1.1.1.1.2.2.1, ⟨hk.1.1.1.1.1.1.1.1.1.2.2.2, ⟨hk.1.1.1.1.1.1.1.2, ⟨hk.1.1.1.1.1.1.2, ⟨hk.1.1.1.1.1.2, ⟨hk.1.1.1.1.2, ⟨hk.1.1.1.2, ⟨hk.1.1.2, ⟨hk.2, ⟨hk.1.2, hk.1.1.1.1.1.1.1.1.2⟩⟩⟩⟩⟩⟩⟩⟩⟩⟩⟩⟩)), (by (with_reducible repeat (first | apply Kd.R_alloc | apply Kd.R_drewN | apply Kd.R_drew)); exact Kd.R_mono HO222.out (fun _ hk => ⟨hk.2, hk.1.2⟩)), (by (with_reducible repeat (first | apply Kd.R_alloc | apply Kd.R_drewN | apply Kd.R_drew)); exact Kd.R_mono HO226.out (fun _ hk => ⟨hk.1.2, ⟨hk.2, hk.1.1⟩⟩)), (by (with_reducible repeat (first | apply Kd.R_alloc | apply Kd.R_drewN | apply Kd.R_drew)); exact Kd.R_mono HO229.out (fun _ hk => ⟨hk.1.2, ⟨hk.2, hk.1.1⟩⟩)), (by (with_reducible repeat (first | apply Kd.R_alloc | apply Kd.R_drewN | apply Kd.R_drew)); exact Kd.R_mono HO232.out (fun _ hk => hk.2)), (by (with_reducible repeat (first | apply Kd.N_alloc | apply Kd.N_drewN | apply Kd.N_drew)); exact Kd.N_mono HO235.out (fun _ hk => ⟨hk.1.1.2.2.2.2.1, ⟨hk.1.1.2.2.2.2.2.1, ⟨hk.1.1.2.2.2.2.2.2.1, ⟨hk.1.1.2.2.2.2.2.2.2.1, ⟨hk.1.1.2.2.2.2.2.2.2.2.1, ⟨hk.1.1.2.2.2.2.2.2.2.2.2.1, ⟨hk.1.1.1, ⟨hk.1.1.2.1, ⟨hk.1.1.2.2.1, ⟨hk.1.1.2.2.2.1, ⟨hk.2, ⟨hk.1.2, hk.1.1.2.2.2.2.2.2.2.2.2.2⟩⟩⟩⟩⟩⟩⟩⟩⟩⟩⟩⟩)), (by (with_reducible repeat (first | apply Kd.N_alloc | apply Kd.N_drewN | apply Kd.N_drew)); exact Kd.N_mono HO238.out (fun _ hk => ⟨hk.1.1.2.2.2.2.1, ⟨hk.1.1.2.2.2.2.2.1, ⟨hk.1.1.2.2.2.2.2.2.1, ⟨hk.1.1.2.2.2.2.2.2.2.1, ⟨hk.1.1.2.2.2.2.2.2.2.2.1, ⟨hk.1.1.2.2.2.2.2.2.2.2.2.1, ⟨hk.1.1.1, ⟨hk.1.1.2.1, ⟨hk.1.1.2.2.1, ⟨hk.1.1.2.2.2.1, ⟨hk.2, ⟨hk.1.2, hk.1.1.2.2.2.2.2.2.2.2.2.2⟩⟩⟩⟩⟩⟩⟩⟩⟩⟩⟩⟩)), (by (with_reducible repeat (first | apply Kd.R_alloc | apply Kd.R_drewN | apply Kd.R_drew)); exact Kd.R_mono HO243.out (fun _ hk => ⟨hk.1.2, hk.2⟩)), (by (with_reducible repeat (first | apply Kd.R_alloc | apply Kd.R_drewN | apply Kd.R_drew)); exact Kd.R_mono HO246.out (fun _ hk => ⟨hk.1.2, hk.2⟩)), (by (with_reducible repeat (first | refine qn ?_ _ | refine qd ?_ | refine qa ?_ _)); exact BK215.out), (by repeat (first | (with_reducible first | exact HB.out | apply qA | apply qN | apply qD | refine qS ?_ GE215.out) | exact HB.out))⟩)
        (rintro ⟨v242, v245⟩ w45 ⟨hS_, h0_, h1_, h2_, h3_, h4_, h5_, h6_, h7_, h8_, h9_, h10_, h11_, h12_, h13_, h14_⟩); (have n0_ : Aside0 (Kd.R Kd.string 9 w45 w.heap.size (fun k_ => some k_ ≠ (.slice Ao22 t203.length co22 : Value).ownBlock ∧ some k_ ≠ (.slice Ao35 t224.length co35 : Value).ownBlock ∧ some k_ ≠ (.slice Ao36 t227.length co36 : Value).ownBlock) (.slice Ao20 t200.length co20) t200) := ⟨h0_⟩); (have n1_ : Aside0 (Kd.R Kd.string 9 w45 w.heap.size (fun k_ => some k_ ≠ (.slice Ao20 t200.length co20 : Value).ownBlock ∧ some k_ ≠ (.slice Ao35 t224.length co35 : Value).ownBlock ∧ some k_ ≠ (.slice Ao36 t227.length co36 : Value).ownBlock) (.slice Ao22 t203.length co22) t203) := ⟨h1_⟩); (have n2_ : Aside0 (Kd.R (Kd.int .i64) 66 w45 w.heap.size (fun k_ => some k_ ≠ (.slice Ao37 t230.length co37 : Value).ownBlock) (.slice Ao23 t206.length co23) t206) := ⟨h2_⟩)
        have n3_ : Aside0 (Kd.N k43 43 w45 w.heap.size (fun k_ => some k_ ≠ (.slice Ao20 t200.length co20 : Value).ownBlock ∧ some k_ ≠ (.slice Ao22 t203.length co22 : Value).ownBlock ∧ some k_ ≠ (.slice Ao23 t206.length co23 : Value).ownBlock ∧ some k_ ≠ (.slice Ao25 t212.length co25 : Value).ownBlock ∧ some k_ ≠ (.slice Ao32 y220.length co32 : Value).ownBlock ∧ some k_ ≠ (.slice Ao35 t224.length co35 : Value).ownBlock ∧ some k_ ≠ (.slice Ao36 t227.length co36 : Value).ownBlock ∧ some k_ ≠ (.slice Ao37 t230.length co37 : Value).ownBlock ∧ some k_ ≠ (.slice Ao38 t233.length co38 : Value).ownBlock ∧ some k_ ≠ (.slice Ao39 t236.length co39 : Value).ownBlock ∧ some k_ ≠ (v242 : Value).ownBlock ∧ some k_ ≠ (v245 : Value).ownBlock ∧ k_ ≠ gb215) (.slice Ao24 t209.length co24) t209) := ⟨h3_⟩
        have n4_ : Aside0 (Kd.N k46 46 w45 w.heap.size (fun k_ => some k_ ≠ (.slice Ao20 t200.length co20 : Value).ownBlock ∧ some k_ ≠ (.slice Ao22 t203.length co22 : Value).ownBlock ∧ some k_ ≠ (.slice Ao23 t206.length co23 : Value).ownBlock ∧ some k_ ≠ (.slice Ao24 t209.length co24 : Value).ownBlock ∧ some k_ ≠ (.slice Ao32 y220.length co32 : Value).ownBlock ∧ some k_ ≠ (.slice Ao35 t224.length co35 : Value).ownBlock ∧ some k_ ≠ (.slice Ao36 t227.length co36 : Value).ownBlock ∧ some k_ ≠ (.slice Ao37 t230.length co37 : Value).ownBlock ∧ some k_ ≠ (.slice Ao38 t233.length co38 : Value).ownBlock ∧ some k_ ≠ (.slice Ao39 t236.length co39 : Value).ownBlock ∧ some k_ ≠ (v242 : Value).ownBlock ∧ some k_ ≠ (v245 : Value).ownBlock ∧ k_ ≠ gb215) (.slice Ao25 t212.length co25) t212) := ⟨h4_⟩
        (have n5_ : Aside0 (Kd.R (Kd.int .i64) 3 w45 w.heap.size (fun k_ => some k_ ≠ (v242 : Value).ownBlock ∧ some k_ ≠ (v245 : Value).ownBlock) (.slice Ao32 y220.length co32) y220) := ⟨h5_⟩); (have n6_ : Aside0 (Kd.R Kd.string 9 w45 w.heap.size (fun k_ => some k_ ≠ (.slice Ao20 t200.length co20 : Value).ownBlock ∧ some k_ ≠ (.slice Ao22 t203.length co22 : Value).ownBlock ∧ some k_ ≠ (.slice Ao36 t227.length co36 : Value).ownBlock) (.slice Ao35 t224.length co35) t224) := ⟨h6_⟩); (have n7_ : Aside0 (Kd.R Kd.string 9 w45 w.heap.size (fun k_ => some k_ ≠ (.slice Ao20 t200.length co20 : Value).ownBlock ∧ some k_ ≠ (.slice Ao22 t203.length co22 : Value).ownBlock ∧ some k_ ≠ (.slice Ao35 t224.length co35 : Value).ownBlock) (.slice Ao36 t227.length co36) t227) := ⟨h7_⟩); (have n8_ : Aside0 (Kd.R (Kd.int .i64) 66 w45 w.heap.size (fun k_ => some k_ ≠ (.slice Ao23 t206.length co23 : Value).ownBlock) (.slice Ao37 t230.length co37) t230) := ⟨h8_⟩)
        have n9_ : Aside0 (Kd.N k43 43 w45 w.heap.size (fun k_ => some k_ ≠ (.slice Ao20 t200.length co20 : Value).ownBlock ∧ some k_ ≠ (.slice Ao22 t203.length co22 : Value).ownBlock ∧ some k_ ≠ (.slice Ao23 t206.length co23 : Value).ownBlock ∧ some k_ ≠ (.slice Ao24 t209.length co24 : Value).ownBlock ∧ some k_ ≠ (.slice Ao25 t212.length co25 : Value).ownBlock ∧ some k_ ≠ (.slice Ao32 y220.length co32 : Value).ownBlock ∧ some k_ ≠ (.slice Ao35 t224.length co35 : Value).ownBlock ∧ some k_ ≠ (.slice Ao36 t227.length co36 : Value).ownBlock ∧ some k_ ≠ (.slice Ao37 t230.length co37 : Value).ownBlock ∧ some k_ ≠ (.slice Ao39 t236.length co39 : Value).ownBlock ∧ some k_ ≠ (v242 : Value).ownBlock ∧ some k_ ≠ (v245 : Value).ownBlock ∧ k_ ≠ gb215) (.slice Ao38 t233.length co38) t233) := ⟨h9_⟩
        have n10_ : Aside0 (Kd.N k46 46 w45 w.heap.size (fun k_ => some k_ ≠ (.slice Ao20 t200.length co20 : Value).ownBlock ∧ some k_ ≠ (.slice Ao22 t203.length co22 : Value).ownBlock ∧ some k_ ≠ (.slice Ao23 t206.length co23 : Value).ownBlock ∧ some k_ ≠ (.slice Ao24 t209.length co24 : Value).ownBlock ∧ some k_ ≠ (.slice Ao25 t212.length co25 : Value).ownBlock ∧ some k_ ≠ (.slice Ao32 y220.length co32 : Value).ownBlock ∧ some k_ ≠ (.slice Ao35 t224.length co35 : Value).ownBlock ∧ some k_ ≠ (.slice Ao36 t227.length co36 : Value).ownBlock ∧ some k_ ≠ (.slice Ao37 t230.length co37 : Value).ownBlock ∧ some k_ ≠ (.slice Ao38 t233.length co38 : Value).ownBlock ∧ some k_ ≠ (v242 : Value).ownBlock ∧ some k_ ≠ (v245 : Value).ownBlock ∧ k_ ≠ gb215) (.slice Ao39 t236.length co39) t236) := ⟨h10_⟩
        (have n11_ : Aside0 (Kd.R (Kd.int .i64) 3 w45 w.heap.size (fun k_ => some k_ ≠ (.slice Ao32 y220.length co32 : Value).ownBlock ∧ some k_ ≠ (v245 : Value).ownBlock) v242 t241) := ⟨h11_⟩); (have n12_ : Aside0 (Kd.R (Kd.int .i64) 3 w45 w.heap.size (fun k_ => some k_ ≠ (.slice Ao32 y220.length co32 : Value).ownBlock ∧ some k_ ≠ (v242 : Value).ownBlock) v245 y244) := ⟨h12_⟩); (have n13_ : Aside0 (w45.heap[gb215]? = some (.cells #[.slice Ao20 t200.length co20, .slice Ao22 t203.length co22, .slice Ao23 t206.length co23, .slice Ao24 t209.length co24, .slice Ao25 t212.length co25] 27 (0, 0))) := ⟨h13_⟩); (have n14_ : Aside0 (Below w.heap.size w w45) := ⟨h14_⟩); clear HO202 HO205 HO208 HO211 HO214 BK215 HB h0_ h1_ h2_ h3_ h4_ h5_ h6_ h7_ h8_ h9_ h10_ h11_ h12_ h13_ h14_; (have HO202 := n0_); (have HO205 := n1_); (have HO208 := n2_); (have HO211 := n3_); (have HO214 := n4_); (have HO222 := n5_); (have HO226 := n6_); (have HO229 := n7_); (have HO232 := n8_); (have HO235 := n9_); (have HO238 := n10_); (have HO243 := n11_); (have HO246 := n12_); (have BK215 := n13_); (have HB := n14_); clear n0_ n1_ n2_ n3_ n4_ n5_ n6_ n7_ n8_ n9_ n10_ n11_ n12_ n13_ n14_; (have hHeld : w45.cell? ⟨gb215, 0, none⟩ = some (.slice Ao20 t200.length co20) ∧ w45.cell? ⟨gb215, 1, none⟩ = some (.slice Ao22 t203.length co22) ∧ w45.cell? ⟨gb215, 2, none⟩ = some (.slice Ao23 t206.length co23) ∧ w45.cell? ⟨gb215, 3, none⟩ = some (.slice Ao24 t209.length co24) ∧ w45.cell? ⟨gb215, 4, none⟩ = some (.slice Ao25 t212.length co25) := hS_); (obtain ⟨Ao46, co46, eo46⟩ := Kd.R_slice HO243.out); ((first | subst eo46 | (injection eo46 with f1_ f2_ f3_; have f4_ := f1_.symm; have f5_ := f3_.symm; clear f1_ f2_ f3_; subst f4_; subst f5_))); (obtain ⟨Ao47, co47, eo47⟩ := Kd.R_slice HO246.out); ((first | subst eo47 | (injection eo47 with f1_ f2_ f3_; have f4_ := f1_.symm; have f5_ := f3_.symm; clear f1_ f2_ f3_; subst f4_; subst f5_))); (refine norm_ (a' := ?_) ?_ ?_); rotate_left; ((simp only [putAll, Act.put, List.setIfInBounds_toArray, List.set_cons_zero, List.set_cons_succ]; rfl)); (refine one_ (i := 36) (N := some 46) #[true, true, true, true, true, true, true, true, true, true, true, true, true, true, true, true, true, true, true, true, true, true, true, true, true, true, true, true, true, true, true, true, true, true, true, true, true, false, false] rfl rfl (one_of HT_.out (by kernel_rfl)) (by decide) (fun K hK => ?_)); (refine goes_ Tryd.func20 (by kernel_rfl) rfl #[.slice Ao46 t241.length co46, .slice Ao47 y244.length co47] (by rfl) rfl rfl (by (try simp only [List.map_toArray, List.map_cons, List.map_nil]); first | done | rfl | (simp only [List.length_drop, List.length_take]; rfl)) ?_)
        (with_reducible refine (arboristref15_Ints.calls k _ _ t241 _ _ y244 t247 _ ?side1 ?side2 ?side3 ?side4 A17.out).mono ?_); ((case side1 => repeat (first | exact (Kd.R_reads' HO243.out).2.2 | (with_reducible refine Kd.C_alloc ?_ _) | (with_reducible refine Kd.C_drewN ?_ _) | (with_reducible refine Kd.C_drew ?_)))); ((case side2 => exact (Kd.R_reads' HO243.out).2.1)); ((case side3 => repeat (first | exact (Kd.R_reads' HO246.out).2.2 | (with_reducible refine Kd.C_alloc ?_ _) | (with_reducible refine Kd.C_drewN ?_ _) | (with_reducible refine Kd.C_drew ?_)))); ((case side4 => exact (Kd.R_reads' HO246.out).2.1)); (rintro e w' ⟨rfl, ⟨nd, rfl⟩⟩); (refine ⟨_, rfl, ?_⟩); (refine hK.out _ _ ⟨(blk_cell BK215.out 0).trans rfl, (blk_cell BK215.out 1).trans rfl, (blk_cell BK215.out 2).trans rfl, (blk_cell BK215.out 3).trans rfl, (blk_cell BK215.out 4).trans rfl⟩ (fun hHeld => ?_)); clear hK K; (refine norm_ (a' := ?_) ?_ ?_); rotate_left; ((show Act.put _ (some 46) _ = _; simp only [Act.put, List.setIfInBounds_toArray, List.set_cons_zero, List.set_cons_succ, i64_w, i32_w]; rfl)); (refine pure_ (i := 37) (N := some 47) (v := ?_) (a' := ?_) #[true, true, true, true, true, true, true, true, true, true, true, true, true, true, true, true, true, true, true, true, true, true, true, true, true, true, true, true, true, true, true, true, true, true, true, true, true, true, false] rfl rfl (any_of HT_.out (by kernel_rfl)) (fun _ _ _ h => h) (Or.inl ⟨by rfl, ?_⟩) ?_ ?_); rotate_left; ((intro w'; go_simp; with_reducible rfl)); rotate_left; ((simp only [Act.put, List.setIfInBounds_toArray, List.set_cons_zero, List.set_cons_succ, i64_w, i32_w]; rfl)); (refine pure_ (i := 38) (N := some 0) (v := ?_) (a' := ?_) #[true, true, true, true, true, true, true, true, true, true, true, true, true, true, true, true, true, true, true, true, true, true, true, true, true, true, true, true, true, true, true, true, true, true, true, true, true, true, true] rfl rfl (any_of HT_.out (by kernel_rfl)) (fun _ _ _ h => h) (Or.inl ⟨by rfl, ?_⟩) ?_ ?_); rotate_left; ((intro w'; go_simp; with_reducible rfl)); rotate_left; ((simp only [Act.put, List.setIfInBounds_toArray, List.set_cons_zero, List.set_cons_succ, i64_w, i32_w]; rfl)); (refine done_ (done_of HT_.out (by kernel_rfl)) ?_); (try go_wp2); (go_ret); (exact ⟨by first | rfl | (simp [errW_none, errW_some] <;> rfl) | (simp [*, errW_none, errW_some] <;> rfl), by repeat (first | (with_reducible first | exact HB.out | apply qA | apply qN | apply qD | refine qS ?_ GE215.out) | exact HB.out)⟩)
      ·replace c13 := Bool.eq_false_iff.mpr c13
       subst c13; (have H1 : (none) = some r := by rw [if_neg (show ¬ (false = true) by decide)] at H; exact H); clear H; (have H := H1); clear H1; (exact absurd H (by simp))
     ·rw [if_neg c10] at H
      exact absurd H (by simp)
    ·replace c8 := Bool.eq_false_iff.mpr c8
     subst c8; (have H1 : (none) = some r := by rw [if_neg (show ¬ (false = true) by decide)] at H; exact H); clear H; (have H := H1); clear H1; (exact absurd H (by simp))
   ·rw [if_neg c7] at H
    exact absurd H (by simp)
  ·rw [if_neg c6] at H
   exact absurd H (by simp)
 ·rw [if_neg c4] at H
  exact absurd H (by simp)
end Go.Proofs.YtgchidlombijbaaDoor.H
end
section
namespace Go.Proofs.YtgchidlombijbaaDoor.H
open Go.RowKit Go.Proofs.YtgchidlombijbaaDoorW.PrintWords Go.Proofs.YtgchidlombijbaaDoorW.PrintLast Go.Proofs.YtgchidlombijbaaDoorW.PrintMore
set_option linter.unusedVariables false
set_option linter.unusedSimpArgs false
theorem up {α : Type} {f : Nat → Option α} (hm : ∀ k, LeO (f k) (f (k + 1))) {k m : Nat} (h : k ≤ m) {v : α} (hk : f k = some v) : f m = some v := by
  induction m with
  | zero => obtain rfl : k = 0 := by omega
            exact hk
  | succ m ih =>
    rcases Nat.lt_or_ge k (m + 1) with q | q
    · exact hm m v (ih (by omega))
    · obtain rfl : k = m + 1 := by omega
      exact hk
theorem wrap_id {n : Int} (h0 : -9223372036854775808 ≤ n) (h1 : n ≤ 9223372036854775807) : wrap64 n = n := by
  unfold wrap64
  omega
theorem wf_i64 {n : Int} (h : (Lit.int .i64 n).wf = true) : -9223372036854775808 ≤ n ∧ n ≤ 9223372036854775807 := bounds_i64 h
section
set_option maxRecDepth 100000
theorem knows_true : arboristlaw15_knows.f 30 = some true := by
  simp only [arboristlaw15_knows.f, Lib.toList_data]
  kernel_rfl
end
end Go.Proofs.YtgchidlombijbaaDoor.H
end
section
namespace Go.Proofs.YtgchidlombijbaaDoor.H
open Go.RowKit Go.Proofs.YtgchidlombijbaaDoorW.PrintWords Go.Proofs.YtgchidlombijbaaDoorW.PrintLast Go.Proofs.YtgchidlombijbaaDoorW.PrintMore
set_option linter.unusedVariables false
set_option linter.unusedSimpArgs false
def sumR : List S43 → Nat
  | [] => 0
  | x :: r => x.f1.length + x.f2.length + sumR r
def sumL : List S46 → Nat
  | [] => 0
  | x :: r => x.f1.length + sumL r
structure Small (l0 l1 : List ByteArray) (l2 : List Int) (l3 : List S43) (l4 : List S46) : Prop where
  h0 : l0.length ≤ 60
  h1 : l1.length ≤ 60
  h2 : l2.length ≤ 60
  h3 : l3.length ≤ 60
  h4 : l4.length ≤ 40
  hs : sumR l3 + sumL l4 ≤ 520
variable (l0 l1 : List ByteArray) (l2 : List Int) (l3 : List S43) (l4 : List S46)
theorem drop_cons {α : Type} {l : List α} {i : Nat} {x : α} {r : List α} (h : l.drop i = x :: r) : i < l.length ∧ l.drop (i + 1) = r ∧ ∀ d, l.getD i d = x := by
  have hi : i < l.length := by
    rcases Nat.lt_or_ge i l.length with q | q
    · exact q
    · rw [List.drop_of_length_le q] at h; cases h
  refine ⟨hi, ?_, fun d => ?_⟩
  · rw [List.drop_eq_getElem_cons hi] at h; injection h
  · rw [List.drop_eq_getElem_cons hi] at h
    injection h with h1 h2
    rw [List.getD_eq_getElem?_getD, List.getElem?_eq_getElem hi, h1]; rfl
theorem drop_nil {α : Type} {l : List α} {i : Nat} (h : l.drop i = []) : l.length ≤ i := by simpa using h
theorem few_end (n : Int) : ∃ v, (if (l3.length : Int) ≤ 60 then (if (l0.length : Int) ≤ 60 then (if (l1.length : Int) ≤ 60 then (if (l2.length : Int) ≤ 60 then (if (l4.length : Int) ≤ 40 then (some (decide (n ≤ (wrap64 ((wrap64 (8 * 60)) + 40))))) else (some false)) else (some false)) else (some false)) else (some false)) else (some false)) = some v ∧ (v = true → l0.length ≤ 60 ∧ l1.length ≤ 60 ∧ l2.length ≤ 60 ∧ l3.length ≤ 60 ∧ l4.length ≤ 40 ∧ n ≤ 520) := by
  have e : wrap64 ((wrap64 (8 * 60)) + 40) = 520 := by kernel_rfl
  rw [e]
  repeat' split
  · exact ⟨_, rfl, fun h => by simp at h; omega⟩
  all_goals exact ⟨_, rfl, fun h => by cases h⟩
theorem few_l1 (hl4 : ∀ x ∈ l4, ok46 x) : ∀ (rest : List S46) (j : Nat) (n : Int), l4.drop j = rest → j ≤ 50 → 0 ≤ n → n ≤ 9007199254740992 + j * 35184372088832 →
    ∃ k v, arboristref15_Few.l1 k 60 n (j : Int) l0 l1 l2 l3 l4 = some v ∧ (v = true → l0.length ≤ 60 ∧ l1.length ≤ 60 ∧ l2.length ≤ 60 ∧ l3.length ≤ 60 ∧ l4.length ≤ 40 ∧ n + sumL rest ≤ 520) := by
  intro rest
  induction rest with
  | nil =>
    intro j n hd hj hn hn2
    have := drop_nil hd
    obtain ⟨v, hv, hp⟩ := few_end l0 l1 l2 l3 l4 n
    refine ⟨1, v, ?_, fun h => by have := hp h; simp [sumL]; omega⟩
    simp only [arboristref15_Few.l1]
    rw [if_neg (by omega)]
    exact hv
  | cons x r ih =>
    intro j n hd hj hn hn2
    obtain ⟨hi, hr, hx⟩ := drop_cons hd
    by_cases h50 : j < 50
    · have hxo := (ok46_iff x).1 (hl4 x (by rw [← hx ⟨0, []⟩, List.getD_eq_getElem?_getD, List.getElem?_eq_getElem hi]; exact List.getElem_mem hi))
      have hlen : x.f1.length ≤ 17592186044416 := by have := hxo.2.1; unfold reachBytes at this; omega
      have hw : wrap64 (n + (x.f1.length : Int)) = n + (x.f1.length : Int) := wrap_id (by omega) (by omega)
      obtain ⟨k, v, hv, hp⟩ := ih (j + 1) (n + x.f1.length) hr (by omega) (by omega) (by push_cast; omega)
      refine ⟨k + 1, v, ?_, fun h => by have := hp h; simp [sumL]; omega⟩
      simp only [arboristref15_Few.l1]
      rw [if_pos (by omega), if_pos (by omega), if_pos (by omega)]
      have e1 : (rd_T46 l4 (j : Int)) = x := by unfold rd_T46; simpa using hx _
      rw [e1, hw, show wrap64 ((j : Int) + 1) = ((j + 1 : Nat) : Int) from by rw [wrap_id (by omega) (by omega)]; push_cast; rfl]
      exact hv
    · obtain rfl : j = 50 := by omega
      obtain ⟨v, hv, hp⟩ := few_end l0 l1 l2 l3 l4 n
      refine ⟨1, v, ?_, fun h => by have := hp h; omega⟩
      simp only [arboristref15_Few.l1]
      rw [if_pos (by omega), if_neg (by omega)]
      exact hv
theorem few_l0 (hl3 : ∀ x ∈ l3, ok43 x) (hl4 : ∀ x ∈ l4, ok46 x) : ∀ (rest : List S43) (j : Nat) (n : Int), l3.drop j = rest → j ≤ 61 → 0 ≤ n → n ≤ j * 140737488355328 →
    ∃ k v, arboristref15_Few.l0 k 60 n (j : Int) l0 l1 l2 l3 l4 = some v ∧ (v = true → l0.length ≤ 60 ∧ l1.length ≤ 60 ∧ l2.length ≤ 60 ∧ l3.length ≤ 60 ∧ l4.length ≤ 40 ∧ n + sumR rest + sumL l4 ≤ 520) := by
  intro rest
  induction rest with
  | nil =>
    intro j n hd hj hn hn2
    have := drop_nil hd
    obtain ⟨k, v, hv, hp⟩ := few_l1 l0 l1 l2 l3 l4 hl4 l4 0 n rfl (by omega) hn (by omega)
    refine ⟨k + 2, v, ?_, fun h => by have := hp h; simp [sumR]; omega⟩
    simp only [arboristref15_Few.l0]
    rw [if_neg (by omega)]
    simp only [arboristref15_Few.j1]
    exact hv
  | cons x r ih =>
    intro j n hd hj hn hn2
    obtain ⟨hi, hr, hx⟩ := drop_cons hd
    by_cases h50 : j ≤ 60
    · have hxo := (ok43_iff x).1 (hl3 x (by rw [← hx ⟨0, [], [], ⟨#[]⟩, 0⟩, List.getD_eq_getElem?_getD, List.getElem?_eq_getElem hi]; exact List.getElem_mem hi))
      have hlen : x.f1.length ≤ 17592186044416 := by have := hxo.2.1.1; unfold reachBytes at this; omega
      have hlen2 : x.f2.length ≤ 17592186044416 := by have := hxo.2.2.1.1; unfold reachBytes at this; omega
      have hw1 : wrap64 ((x.f1.length : Int) + (x.f2.length : Int)) = (x.f1.length : Int) + (x.f2.length : Int) := wrap_id (by omega) (by omega)
      have hw : wrap64 (n + ((x.f1.length : Int) + (x.f2.length : Int))) = n + ((x.f1.length + x.f2.length : Nat) : Int) := by rw [wrap_id (by omega) (by omega)]; push_cast; rfl
      obtain ⟨k, v, hv, hp⟩ := ih (j + 1) (n + ((x.f1.length + x.f2.length : Nat) : Int)) hr (by omega) (by omega) (by push_cast; omega)
      refine ⟨k + 1, v, ?_, fun h => by have := hp h; simp [sumR]; omega⟩
      simp only [arboristref15_Few.l0]
      rw [if_pos (by omega), if_pos (by omega), if_pos (by omega)]
      have e1 : (rd_T43 l3 (j : Int)) = x := by unfold rd_T43; simpa using hx _
      rw [e1, hw1, hw, show wrap64 ((j : Int) + 1) = ((j + 1 : Nat) : Int) from by rw [wrap_id (by omega) (by omega)]; push_cast; rfl]
      exact hv
    · obtain rfl : j = 61 := by omega
      obtain ⟨k, v, hv, hp⟩ := few_l1 l0 l1 l2 l3 l4 hl4 l4 0 n rfl (by omega) hn (by omega)
      refine ⟨k + 2, v, ?_, fun h => by have := hp h; omega⟩
      simp only [arboristref15_Few.l0]
      rw [if_pos (by omega), if_neg (by omega)]
      simp only [arboristref15_Few.j1]
      exact hv
theorem few_ends (x : S27) (hx : ok27 x) : ∃ k v, arboristref15_Few.f k x.f0 x.f1 x.f2 x.f3 x.f4 60 = some v ∧ (v = true → Small x.f0 x.f1 x.f2 x.f3 x.f4) := by
  have h := (ok27_iff x).1 hx
  obtain ⟨k, v, hv, hp⟩ := few_l0 x.f0 x.f1 x.f2 x.f3 x.f4 h.2.2.2.1.2 h.2.2.2.2.2 x.f3 0 0 rfl (by omega) (by omega) (by omega)
  refine ⟨k, v, hv, fun ht => ?_⟩
  have := hp ht
  exact ⟨this.1, this.2.1, this.2.2.1, this.2.2.2.1, this.2.2.2.2.1, by omega⟩
end Go.Proofs.YtgchidlombijbaaDoor.H
end
section
namespace Go.Proofs.YtgchidlombijbaaDoor.H
open Go.RowKit Go.Proofs.YtgchidlombijbaaDoorW.PrintWords Go.Proofs.YtgchidlombijbaaDoorW.PrintLast Go.Proofs.YtgchidlombijbaaDoorW.PrintMore
set_option linter.unusedVariables false
set_option linter.unusedSimpArgs false
section
variable (l0 l1 : List ByteArray) (l2 : List Int) (l3 : List S43) (l4 : List S46)
def thereS (s : Int) : Bool := decide (s < l0.length) && decide (-(l1.length : Int) ≤ s)
end
theorem next_i {i : Nat} (h : i < 281474976710656) : wrap64 ((i : Int) + 1) = ((i + 1 : Nat) : Int) := by rw [wrap_id (by omega) (by omega)]; push_cast; rfl
section
variable {l0 l1 : List ByteArray} {l2 : List Int} {l3 : List S43} {l4 : List S46}
theorem there_f (h1 : l1.length ≤ 140737488355328) (s : Int) : grammar_there.f l0 l1 l2 l3 l4 s = some (thereS l0 l1 s) := by
  unfold grammar_there.f thereS
  rw [wrap_id (by omega) (by omega)]
  by_cases h : s < (l0.length : Int) <;> simp [h]
theorem find_f (hx : ok27 ⟨l0, l1, l2, l3, l4⟩) (s : ByteArray) (hs : s.size ≤ reachBytes) : grammar_Find.f l0 l1 l2 l3 l4 s = some ((findSym l0 l1 s).getD 0, (findSym l0 l1 s).isSome) := by
  have h := (ok27_iff _).1 hx
  simp only at h
  unfold grammar_Find.f
  rw [if_pos]
  simp only [grammar_Find.ok, Bool.and_eq_true, List.all_eq_true, decide_eq_true_eq]
  have h0 := h.1.1
  have h1 := h.2.1.1
  unfold reachBytes at h0 h1 hs
  refine ⟨⟨⟨⟨fun y hy => ?_, fun y hy => ?_⟩, hs⟩, by omega⟩, by omega⟩
  · have := h.1.2 y hy; unfold reachBytes at this; exact this
  · have := h.2.1.2 y hy; unfold reachBytes at this; exact this
end
end Go.Proofs.YtgchidlombijbaaDoor.H
end
section
namespace Go.Proofs.YtgchidlombijbaaDoor.H
open Go.RowKit Go.Proofs.YtgchidlombijbaaDoorW.PrintWords Go.Proofs.YtgchidlombijbaaDoorW.PrintLast Go.Proofs.YtgchidlombijbaaDoorW.PrintMore
set_option linter.unusedVariables false
set_option linter.unusedSimpArgs false
section
variable {l0 l1 : List ByteArray} {l2 : List Int} {l3 : List S43} {l4 : List S46}
theorem getD_mem {α : Type} {l : List α} {i : Nat} (hi : i < l.length) (d : α) : l.getD i d ∈ l := by
  rw [List.getD_eq_getElem?_getD, List.getElem?_eq_getElem hi]; exact List.getElem_mem hi
theorem dtl_ne {a b : ByteArray} : (a.toList = b.toList) ↔ a = b := by
  rw [Lib.toList_data, Lib.toList_data]
  exact ⟨ba_ext, fun h => by rw [h]⟩
theorem is_f (h1 : l1.length ≤ 140737488355328) (s : Int) : arboristref15_Is.f l0 l1 l2 l3 l4 s = some (thereS l0 l1 s) := by
  unfold arboristref15_Is.f thereS
  rw [wrap_id (by omega) (by omega)]
  by_cases h : s ≥ 0
  · rw [if_pos h]
    by_cases h2 : s < (l0.length : Int)
    · rw [if_pos h2, decide_eq_true h2, decide_eq_true (by omega)]; rfl
    · rw [if_neg h2, if_neg (by omega), decide_eq_false h2]; rfl
  · rw [if_neg h, if_pos (by omega), decide_eq_true (show s < (l0.length : Int) by omega)]; simp
end
end Go.Proofs.YtgchidlombijbaaDoor.H
end
