/- For every list of tokens that the guards let in, SpeclexShows returns true: Show prints the list as the reference does. -/
import Derived.WalkMore
import Derived.Deep.LoopGhost
import Derived.Test.YthijdjpipjbkbaaDoorRows
import Derived.Test.YthijdjpipjbkbaaDoorTie
import Derived.Test.YthijdjpipjbkbaaDoorCards
import Derived.Deep.DeepHandedRow
import Derived.ProofKit
import Derived.SizedLaws
import Derived.OpenShut
import Derived.ShutString
import Derived.ChangeOld
import Derived.Below
import Derived.SevenTiedAt
import Derived.WalkKit
import Derived.Stop.LaidErr
import Derived.Test.YthijdjpipjbkbaaDoorZs3
section
namespace Go.Proofs.YthijdjpipjbkbaaDoor.H
open Go.RowKit Go.Shelf Go.Proofs.YthijdjpipjbkbaaDoorW.PrintWords Go.Proofs.YthijdjpipjbkbaaDoorW.PrintLast Go.Proofs.YthijdjpipjbkbaaDoorW.PrintMore
open Go.Maps
set_option linter.unusedVariables false
set_option linter.unusedSimpArgs false
def byteAt (s : ByteArray) (i : Nat) : Nat := (bt s (i : Int)).toNat
theorem byteAt_bt (s : ByteArray) (i : Nat) : bt s (i : Int) = (byteAt s i : Int) ∧ byteAt s i < 256 := by
  have := bt_range s (i : Int)
  unfold byteAt
  omega
def isCom (s : ByteArray) (i : Nat) : Bool := cls (byteAt s i) == 8 && (decide (i + 1 = s.size) || !letB (byteAt s (i + 1)))
def nlAt (s : ByteArray) (i : Nat) : Int := Lib.indexByte (s.extract i s.size).data.toList 10
def speclex_Scan.l0 : Nat → ByteArray → List S32 → Nat → Option (List S32 × Int × Int × ByteArray)
  | 0, _, _, _ => none
  | k + 1, s, out, i => if i < s.size then
      (if isCom s i = true then (if nlAt s i < 0 then some (out, 0, 0, ⟨#[]⟩) else if nlAt s i ≤ 4294967296 then speclex_Scan.l0 k s out (i + (nlAt s i).toNat) else none)
       else if cls (byteAt s i) = 7 then speclex_Scan.l0 k s out (i + 1)
       else if out.length = 16384 then some ([], 4, (i : Int), ⟨#[]⟩)
       else if out.length < 4294967296 then (speclex_one.f k (s.extract i s.size) (cls (byteAt s i) : Int)).bind fun t =>
         if t.2.2.2.2 = 0 then (if 0 ≤ t.2.2.2.1 ∧ t.2.2.2.1 ≤ 4294967296 then speclex_Scan.l0 k s (out ++ [⟨t.1, t.2.1, (i : Int)⟩]) (i + t.2.2.2.1.toNat) else none)
         else some ([], t.2.2.2.2, (i : Int), ⟨#[]⟩) else none)
    else some (out, 0, 0, ⟨#[]⟩)
def speclex_Scan.f (k : Nat) (a0 : ByteArray) : Option (List S32 × Int × Int × ByteArray) := if a0.size ≤ 65536 then speclex_Scan.l0 k a0 [] 0 else some ([], 4, 0, ⟨#[]⟩)
theorem speclex_Scan.mono_l : ∀ k s out i, LeO (speclex_Scan.l0 k s out i) (speclex_Scan.l0 (k + 1) s out i)
  | 0, _, _, _ => fun r h => by simp [speclex_Scan.l0] at h
  | k + 1, s, out, i => by
    have ih := speclex_Scan.mono_l k
    unfold speclex_Scan.l0
    repeat' first
      | (with_reducible exact ih _ _ _)
      | (with_reducible exact speclex_one.mono _ _ _)
      | (with_reducible exact LeO.refl _)
      | (with_reducible exact LeO.none _)
      | (with_reducible refine LeO.ite ?_ ?_)
      | (with_reducible refine LeO.bind ?_ (fun _ => ?_))
theorem speclex_Scan.mono : ∀ a0 k, LeO (speclex_Scan.f k a0) (speclex_Scan.f (k + 1) a0) := by
  intro a0 k
  unfold speclex_Scan.f
  exact LeO.ite (speclex_Scan.mono_l _ _ _ _) (LeO.refl _)
structure SC (w : World) (gd gt : Nat) (v : Value) (out : List S32) (W : World) : Prop where
  B : Below w.heap.size w W
  d : ∃ (x0 x1 : Int) (x2 : ByteArray), W.heap[gd]? = some (.cells #[.int .i64 x0, .int .i64 x1, .string x2] 26 (0, 0))
  t : RowT gt cls W
  R : Kd.R k32 32 W w.heap.size (fun _ => True) v out
section
variable {w W W' : World} {gd gt : Nat} {v : Value} {out : List S32}
theorem SC.below (h : SC w gd gt v out W) (hb : Below W.heap.size W W') : SC w gd gt v out W' :=
  ⟨below_step h.B hb, let ⟨x0, x1, x2, hd⟩ := h.d; ⟨x0, x1, x2, blk_below hd hb⟩, h.t.below hb, Kd.R_below h.R hb⟩
theorem SC.ret (h : SC w gd gt v out W) (hgd : w.heap.size ≤ gd) {a : Act} {vv : Value} {r1 : List S32} {r2 r3 : Int} {r4 : ByteArray} (h2 : a.tmps[2]? = some vv) (h3 : a.tmps[3]? = some (.pointer (some ⟨gd, 0, none⟩))) (hd : a.defers = [])
    (hv : (vv = v ∧ r1 = out) ∨ (vv = .slice none 0 0 ∧ r1 = [])) :
    bodyPost Tryd.prog Tryd.f9 (fun e w' => ∃ v0_ : Value, e = .returned (.tuple #[v0_, .agg #[.int .i64 r2, .int .i64 r3, .string r4]]) ∧ Kd.R k32 32 w' w.heap.size (fun _ => True) v0_ r1 ∧ Below w.heap.size w w') .ret a
      (((W.setCell ⟨gd, 0, none⟩ (.int .i64 r2)).setCell ⟨gd, 1, none⟩ (.int .i64 r3)).setCell ⟨gd, 2, none⟩ (.string r4)) := by
  obtain ⟨x0, x1, x2, hD⟩ := h.d
  have hblk : (((W.setCell ⟨gd, 0, none⟩ (.int .i64 r2)).setCell ⟨gd, 1, none⟩ (.int .i64 r3)).setCell ⟨gd, 2, none⟩ (.string r4)).heap[gd]? = some (.cells #[.int .i64 r2, .int .i64 r3, .string r4] 26 (0, 0)) :=
    blk_put (cs := #[.int .i64 r2, .int .i64 r3, .string x2]) (blk_put (cs := #[.int .i64 r2, .int .i64 x1, .string x2]) (blk_put (cs := #[.int .i64 x0, .int .i64 x1, .string x2]) hD 0 _ rfl) 1 _ rfl) 2 _ rfl
  have g3 : a.tmps.getD 3 undef = .pointer (some ⟨gd, 0, none⟩) := by rw [Array.getD_eq_getD_getElem?, h3]; rfl
  have g2 : a.tmps.getD 2 undef = vv := by rw [Array.getD_eq_getD_getElem?, h2]; rfl
  refine bodyPost_ret (results_tc rfl _ _ gd 26 #[.int .i64 r2, .int .i64 r3, .string r4] (0, 0) _ g3 hblk Tryd.underlying26 rfl (by kernel_rfl)) hd ?_
  rw [g2]
  refine ⟨_, rfl, ?_, below_set (below_set (below_set h.B hgd) hgd) hgd⟩
  rcases hv with ⟨rfl, rfl⟩ | ⟨rfl, rfl⟩
  · exact Kd.R_mono (Kd.R_far (p := ⟨gd, 2, none⟩) (Kd.R_far (p := ⟨gd, 1, none⟩) (Kd.R_far (p := ⟨gd, 0, none⟩) (Kd.R_types h.R hD (by decide)) (fun _ hk => hk.2) (.int .i64 r2)) (fun _ hk => hk.2) (.int .i64 r3)) (fun _ hk => hk.2) (.string r4)) (fun _ hk => trivial)
  · exact Kd.R_nil _ _ _ _ _
theorem SC.dcell (h : SC w gd gt v out W) : ∃ (x0 x1 : Int) (x2 : ByteArray), (W.cell? ⟨gd, 0, none⟩ = some (.int .i64 x0) ∧ W.cell? ⟨gd, 1, none⟩ = some (.int .i64 x1) ∧ W.cell? ⟨gd, 2, none⟩ = some (.string x2)) ∧ W.frozen? ⟨gd, 0, none⟩ = false ∧ W.frozen? ⟨gd, 1, none⟩ = false ∧ W.frozen? ⟨gd, 2, none⟩ = false := by
  obtain ⟨x0, x1, x2, hD⟩ := h.d
  exact ⟨x0, x1, x2, ⟨(blk_cell hD 0).trans rfl, (blk_cell hD 1).trans rfl, (blk_cell hD 2).trans rfl⟩, blk_frozen hD 0, blk_frozen hD 1, blk_frozen hD 2⟩
structure SB (w : World) (gd gt gb : Nat) (v : Value) (out : List S32) (W : World) : Prop where
  s : SC w gd gt v out W
  r : Kd.R k32 32 W w.heap.size (fun k => k ≠ gb) v out
  l : w.heap.size ≤ gb
  nd : gd ≠ gb
  nt : gt ≠ gb
theorem SB.set {gb : Nat} (h : SB w gd gt gb v out W) (i : Nat) (u : Value) : SB w gd gt gb v out (W.setCell ⟨gb, i, none⟩ u) :=
  have hr := Kd.R_far (p := ⟨gb, i, none⟩) h.r (fun _ hk => hk) u
  ⟨⟨below_set h.s.B h.l, let ⟨x0, x1, x2, hd⟩ := h.s.d; ⟨x0, x1, x2, blk_far hd (p := ⟨gb, i, none⟩) h.nd u⟩, (Below.heap_setCell W ⟨gb, i, none⟩ u gt h.nt).trans h.s.t, Kd.R_mono hr (fun _ _ => trivial)⟩, hr, h.l, h.nd, h.nt⟩
theorem SB.new (h : SC w gd gt v out W) {gb : Nat} (hg : gb = W.heap.size) (hb : Below W.heap.size W W') : SB w gd gt gb v out W' := by
  obtain ⟨x0, x1, x2, hD⟩ := h.d
  have l1 := blk_lt hD
  have l2 := (Array.getElem?_eq_some_iff.1 h.t).1
  exact ⟨h.below hb, Kd.R_mono (Kd.R_below (Kd.R_elderB h.R gb (by omega)) hb) (fun _ hk => hk.2), by have := h.B.size; omega, by omega, by omega⟩
theorem SC.grown {w1 : World} {v' : Value} {out' : List S32} (h : SC w gd gt v out W) (hg : W.grownBy w1 v.ownBlock) (hb : Below w.heap.size w w1) (hr : Kd.R k32 32 w1 w.heap.size (fun _ => True) v' out') : SC w gd gt v' out' w1 := by
  obtain ⟨x0, x1, x2, hD⟩ := h.d
  exact ⟨hb, ⟨x0, x1, x2, blk_grown hD hg (Kd.R_ne h.R hD (by decide))⟩, blk_grown h.t hg (Kd.R_ne h.R h.t (by decide)), hr⟩
theorem ret0 {a : Act} (hD : W.heap[gd]? = some (.cells #[.int .i64 0, .int .i64 0, .string ⟨#[]⟩] 26 (0, 0))) (hB : Below w.heap.size w W) (hgd : w.heap.size ≤ gd) (h2 : a.tmps[2]? = some (.slice none 0 0)) (h3 : a.tmps[3]? = some (.pointer (some ⟨gd, 0, none⟩))) (hd : a.defers = []) {r2 r3 : Int} {r4 : ByteArray} :
    bodyPost Tryd.prog Tryd.f9 (fun e w' => ∃ v0_ : Value, e = .returned (.tuple #[v0_, .agg #[.int .i64 r2, .int .i64 r3, .string r4]]) ∧ Kd.R k32 32 w' w.heap.size (fun _ => True) v0_ [] ∧ Below w.heap.size w w') .ret a
      (((W.setCell ⟨gd, 0, none⟩ (.int .i64 r2)).setCell ⟨gd, 1, none⟩ (.int .i64 r3)).setCell ⟨gd, 2, none⟩ (.string r4)) := by
  have hblk : (((W.setCell ⟨gd, 0, none⟩ (.int .i64 r2)).setCell ⟨gd, 1, none⟩ (.int .i64 r3)).setCell ⟨gd, 2, none⟩ (.string r4)).heap[gd]? = some (.cells #[.int .i64 r2, .int .i64 r3, .string r4] 26 (0, 0)) :=
    blk_put (cs := #[.int .i64 r2, .int .i64 r3, .string ⟨#[]⟩]) (blk_put (cs := #[.int .i64 r2, .int .i64 0, .string ⟨#[]⟩]) (blk_put (cs := #[.int .i64 0, .int .i64 0, .string ⟨#[]⟩]) hD 0 _ rfl) 1 _ rfl) 2 _ rfl
  have g3 : a.tmps.getD 3 undef = .pointer (some ⟨gd, 0, none⟩) := by rw [Array.getD_eq_getD_getElem?, h3]; rfl
  have g2 : a.tmps.getD 2 undef = .slice none 0 0 := by rw [Array.getD_eq_getD_getElem?, h2]; rfl
  refine bodyPost_ret (results_tc rfl _ _ gd 26 #[.int .i64 r2, .int .i64 r3, .string r4] (0, 0) _ g3 hblk Tryd.underlying26 rfl (by kernel_rfl)) hd ?_
  rw [g2]
  exact ⟨_, rfl, Kd.R_nil _ _ _ _ _, below_set (below_set (below_set hB hgd) hgd) hgd⟩
end
end Go.Proofs.YthijdjpipjbkbaaDoor.H
end
section
namespace Go.Proofs.YthijdjpipjbkbaaDoor.H
open Go.RowKit Go.Shelf Go.Proofs.YthijdjpipjbkbaaDoorW.PrintWords Go.Proofs.YthijdjpipjbkbaaDoorW.PrintLast Go.Proofs.YthijdjpipjbkbaaDoorW.PrintMore
open Go.Maps
set_option linter.unusedVariables false
set_option linter.unusedSimpArgs false
set_option maxRecDepth 100000 in
set_option maxHeartbeats 8000000 in
theorem speclex_Scan.calls (k : Nat) (a0 : ByteArray) (r1 : List S32) (r2 r3 : Int) (r4 : ByteArray) (w : World) (hgw : GW w) (h : speclex_Scan.f k a0 = some (r1, r2, r3, r4)) :
    Calls Tryd.prog 9 #[.string a0] w fun e w' => ∃ v0_ : Value, e = .returned (.tuple #[v0_, .agg #[.int .i64 r2, .int .i64 r3, .string r4]]) ∧ Kd.R k32 32 w' w.heap.size (fun _ => True) v0_ r1 ∧ Below w.heap.size w w' := by
  have HGW := Aside0.mk hgw
  clear hgw
  have hu26 := Tryd.underlying26
  have hu32 := Tryd.underlying32
  have hzv := (zero_of_info info256).1
  have HB := Aside0.mk (Below.refl w.heap.size w)
  unfold speclex_Scan.f at h
  by_cases hsz : a0.size ≤ 65536
  case neg =>
    rw [if_neg hsz] at h
    simp only [Option.some.injEq, Prod.mk.injEq] at h
    obtain ⟨rfl, rfl, rfl, rfl⟩ := h
    have c2b0 : decide (65536 < (a0.size : Int)) = true := decide_eq_true (by omega)
    have c2b1 : decide (65536 < a0.size) = true := decide_eq_true (by omega)
    go_enter Tryd.func9, Tryd.ntmps9
    go_wp2_with ((with_reducible refine gate_dst (N := 3) rfl ?_); refine box_event ?hg (N := 3) ?hd (cs := #[.int .i64 0, .int .i64 0, .string (⟨#[]⟩ : ByteArray)]) (t := 26) ?hr ?_; (case hd => rfl); (case hg => rfl); (case hr => first | (go_simp; done) | (go_simp; rfl)); intro gd hg w3 hbox hb; have BKD := Aside0.mk hbox; have GD := Aside0.mk (show w.heap.size ≤ gd by omega); have HB3 := Aside0.mk hb; clear hbox hb hg; have hc0 : w3.cell? ⟨gd, 0, none⟩ = some (.int .i64 0) := (blk_cell BKD.out 0).trans rfl; have hc1 : w3.cell? ⟨gd, 1, none⟩ = some (.int .i64 0) := (blk_cell BKD.out 1).trans rfl; have hc2 : w3.cell? ⟨gd, 2, none⟩ = some (.string (⟨#[]⟩ : ByteArray)) := (blk_cell BKD.out 2).trans rfl; have hf0 := blk_frozen BKD.out 0; have hf1 := blk_frozen BKD.out 1; have hf2 := blk_frozen BKD.out 2)
    go_step3
    go_wp2
    exact ret0 BKD.out HB3.out GD.out rfl rfl rfl
  rw [if_pos hsz] at h
  have c2b0 : decide (65536 < (a0.size : Int)) = false := decide_eq_false (by omega)
  have c2b1 : decide (65536 < a0.size) = false := decide_eq_false (by omega)
  have H' := Aside0.mk h
  clear h
  go_enter Tryd.func9, Tryd.ntmps9
  go_wp2_with ((with_reducible refine gate_dst (N := 3) rfl ?_); refine box_event ?hg (N := 3) ?hd (cs := #[.int .i64 0, .int .i64 0, .string (⟨#[]⟩ : ByteArray)]) (t := 26) ?hr ?_; (case hd => rfl); (case hg => rfl); (case hr => first | (go_simp; done) | (go_simp; rfl)); intro gd hg w3 hbox hb; have BKD := Aside0.mk hbox; have GD := Aside0.mk (show w.heap.size ≤ gd by omega); have HB3 := Aside0.mk hb; clear hbox hb hg)
  go_step3
  go_wp2_with (first
    | (go_at_call 14; refine (speclex_begins.calls _).mono ?_; rintro e w4 ⟨rfl, hb⟩; have BKD4 := Aside0.mk (blk_below BKD.out hb); have HB4 := Aside0.mk (below_step HB3.out hb); clear hb)
    | ((with_reducible refine gate_dst (N := 4) rfl ?_); refine box_event ?hg (N := 4) ?hd (cs := Array.replicate 256 (.int .u8 0)) (t := 38) ?hr ?_; (case hd => rfl); (case hg => rfl); (case hr => first | (go_simp; done) | (go_simp; rfl)); intro gt hg w5 hbox hb; have BKT := Aside0.mk hbox; have GT := Aside0.mk hg; have BKD5 := Aside0.mk (blk_below BKD4.out hb); have HB5 := Aside0.mk (below_step HB4.out hb); clear hbox hb hg)
    | ((with_reducible refine gate_store (t := 38) (p := 4) (v := .tmp 16) rfl ?_); refine store_event rfl rfl rfl (RowT.store (RowT.of_zero BKT.out) cls) ?_; rintro _ rfl))
  go_step3
  go_wp2
  go_loopg [5, 6] k (fun g v5 v6 wx => ∃ (out : List S32) (i : Nat), v6 = .int .i64 (i : Int) ∧ Aside0 (speclex_Scan.l0 g a0 out i = some (r1, r2, r3, r4)) ∧ Aside0 (SC w gd gt v5 out wx))
  case atStart => exact ⟨[], 0, rfl, H', ⟨⟨below_setRow HB5.out (by have := below_size HB4.out; have := GT.out; omega) _, ⟨0, 0, ⟨#[]⟩, (setRow_other _ _ _ _ (by have := GT.out; have := blk_lt BKD4.out; omega)).trans BKD5.out⟩, RowT.setRow (RowT.of_zero BKT.out) cls, Kd.R_nil _ _ _ _ _⟩⟩⟩
  case round =>
    clear H' c2b0 c2b1 hzv
    obtain ⟨out, i, rfl, HA0, HS⟩ := hrel
    cases gk with
    | zero => exact absurd HA0.out (by simp [speclex_Scan.l0])
    | succ g =>
      have H := HA0.out
      clear HA0
      simp only [speclex_Scan.l0] at H
      by_cases hlt : i < a0.size
      case neg =>
        rw [if_neg hlt] at H
        simp only [Option.some.injEq, Prod.mk.injEq] at H
        obtain ⟨rfl, rfl, rfl, rfl⟩ := H
        have c7 : decide ((i : Int) < (a0.size : Int)) = false := decide_eq_false (by omega)
        obtain ⟨x0, x1, x2, ⟨hc0, hc1, hc2⟩, hf0, hf1, hf2⟩ := HS.out.dcell
        go_wp2
        exact HS.out.ret GD.out rfl rfl rfl (.inl ⟨rfl, rfl⟩)
      rw [if_pos hlt] at H
      have hlti : (i : Int) < (a0.size : Int) := by omega
      obtain ⟨hc, hc256⟩ := byteAt_bt a0 i
      obtain ⟨hd, hd256⟩ := byteAt_bt a0 (i + 1)
      have hlv := letter_val _ hd256
      have hx : (a0[i]'hlt).toNat = byteAt a0 i := by unfold byteAt bt; rw [dif_pos (by simpa using hlt)]; rfl
      have hx2 : ∀ h : i + 1 < a0.size, (a0[i + 1]'h).toNat = byteAt a0 (i + 1) := fun h => by unfold byteAt bt; rw [dif_pos (by simpa using h)]; rfl
      obtain ⟨htc, htf⟩ := HS.out.t.cell (byteAt a0 i) hc256
      have hcm : isCom a0 i = (cls (byteAt a0 i) == 8 && (decide (i + 1 = a0.size) || !letB (byteAt a0 (i + 1)))) := rfl
      obtain ⟨d, hdd⟩ : ∃ d, byteAt a0 (i + 1) = d := ⟨_, rfl⟩
      rw [hdd] at hlv hx2 hcm
      obtain ⟨c, hcc⟩ : ∃ c, byteAt a0 i = c := ⟨_, rfl⟩
      rw [hcc] at hx htc hcm H hc256
      have hci : (c : Int) < 256 := by omega
      obtain ⟨q, hq⟩ : ∃ q, cls c = q := ⟨_, rfl⟩
      rw [hq] at htc hcm H
      clear hc hd hdd hcc hq hd256
      by_cases com : isCom a0 i = true
      · rw [if_pos com] at H
        rw [com] at hcm
        obtain ⟨h8, he⟩ : q = 8 ∧ (i + 1 = a0.size ∨ letB d = false) := by
          have := hcm.symm
          simpa using this
        subst h8
        clear com hcm
        obtain ⟨n, hn⟩ : ∃ n, nlAt a0 i = n := ⟨_, rfl⟩
        have hIB : strings_IndexByte.f (a0.extract i a0.size) 10 = some n := by rw [← hn]; rfl
        rw [hn] at H
        clear hn
        obtain ⟨x0, x1, x2, ⟨hc0, hc1, hc2⟩, hf0, hf1, hf2⟩ := HS.out.dcell
        by_cases hneg : n < 0
        · rw [if_pos hneg] at H
          simp only [Option.some.injEq, Prod.mk.injEq] at H
          obtain ⟨rfl, rfl, rfl, rfl⟩ := H
          have dn : decide (n < 0) = true := decide_eq_true hneg
          by_cases he1 : i + 1 = a0.size
          · have b1 : (((i : Int) + 1) == (a0.size : Int)) = true := by simp; omega
            clear he
            go_wp2_with (go_at_call 16; refine (strings_IndexByte.calls _ _ n _ hIB).mono ?_; rintro e w' ⟨rfl, q2_, rfl⟩)
            exact (HS.out.below (by repeat (first | exact Below.refl _ _ | apply pw_below_drewN))).ret GD.out rfl rfl rfl (.inl ⟨rfl, rfl⟩)
          · have hl := he.resolve_left he1
            rw [hl] at hlv
            have b1 : (((i : Int) + 1) == (a0.size : Int)) = false := by simp; omega
            clear he
            go_wp2_with (first | (go_at_call 15; refine (speclex_letter.calls _ _ _ hlv).mono ?_; rintro e w' ⟨rfl, q_, rfl⟩) | (go_at_call 16; refine (strings_IndexByte.calls _ _ n _ hIB).mono ?_; rintro e w' ⟨rfl, q2_, rfl⟩))
            exact (HS.out.below (by repeat (first | exact Below.refl _ _ | apply pw_below_drewN))).ret GD.out rfl rfl rfl (.inl ⟨rfl, rfl⟩)
        · rw [if_neg hneg] at H
          have dn : decide (n < 0) = false := decide_eq_false hneg
          by_cases hn2 : n ≤ 4294967296
          case neg => rw [if_neg hn2] at H; cases H
          rw [if_pos hn2] at H
          have HH := Aside0.mk H
          clear H
          by_cases he1 : i + 1 = a0.size
          · have b1 : (((i : Int) + 1) == (a0.size : Int)) = true := by simp; omega
            clear he
            go_wp2_with (go_at_call 16; refine (strings_IndexByte.calls _ _ n _ hIB).mono ?_; rintro e w' ⟨rfl, q2_, rfl⟩)
            go_roundg g
            case measure => omega
            case rel => exact ⟨out, i + n.toNat, by congr 1; push_cast; omega, HH, ⟨HS.out.below (by repeat (first | exact Below.refl _ _ | apply pw_below_drewN))⟩⟩
          · have hl := he.resolve_left he1
            rw [hl] at hlv
            have b1 : (((i : Int) + 1) == (a0.size : Int)) = false := by simp; omega
            clear he
            go_wp2_with (first | (go_at_call 15; refine (speclex_letter.calls _ _ _ hlv).mono ?_; rintro e w' ⟨rfl, q_, rfl⟩) | (go_at_call 16; refine (strings_IndexByte.calls _ _ n _ hIB).mono ?_; rintro e w' ⟨rfl, q2_, rfl⟩))
            go_roundg g
            case measure => omega
            case rel => exact ⟨out, i + n.toNat, by congr 1; push_cast; omega, HH, ⟨HS.out.below (by repeat (first | exact Below.refl _ _ | apply pw_below_drewN))⟩⟩
      · rw [if_neg com] at H
        by_cases h7 : q = 7
        · subst h7
          rw [if_pos rfl] at H
          have HH := Aside0.mk H
          clear H com hcm
          go_wp2
          go_roundg g
          case measure => omega
          case rel => exact ⟨out, i + 1, by congr 1, HH, HS⟩
        rw [if_neg h7] at H
        have b7 : ((q : Int) == 7) = false := by simp; omega
        have alt : (((q : Int) == 8) = false) ∨ (((q : Int) == 8) = true ∧ (((i : Int) + 1) == (a0.size : Int)) = false ∧ letB d = true ∧ i + 1 < a0.size) := by
          have hf : (q == 8 && (decide (i + 1 = a0.size) || !letB d)) = false := by rw [← hcm]; simpa using com
          by_cases h8 : q = 8
          · subst h8
            have hne : ¬ i + 1 = a0.size := by intro h; simp [h] at hf
            refine .inr ⟨rfl, ?_, ?_, by omega⟩
            · simp; omega
            · cases hl : letB d with
              | true => rfl
              | false => rw [hl] at hf; simp at hf
          · exact .inl (by simp; omega)
        clear com hcm
        obtain ⟨Ao, co, hv5⟩ := Kd.R_slice HS.out.R
        subst hv5
        by_cases h16 : out.length = 16384
        · rw [if_pos h16] at H
          simp only [Option.some.injEq, Prod.mk.injEq] at H
          obtain ⟨rfl, rfl, rfl, rfl⟩ := H
          have d16 : ((out.length : Int) == 16384) = true := by simp; omega
          obtain ⟨x0, x1, x2, ⟨hc0, hc1, hc2⟩, hf0, hf1, hf2⟩ := HS.out.dcell
          rcases alt with hb8 | ⟨hb8, he, hl, hlt2⟩
          · go_wp2
            exact HS.out.ret GD.out rfl rfl rfl (.inr ⟨rfl, rfl⟩)
          · rw [hl] at hlv
            go_wp2_with (go_at_call 15; refine (speclex_letter.calls _ _ _ hlv).mono ?_; rintro e w' ⟨rfl, q_, rfl⟩)
            exact (HS.out.below (by repeat (first | exact Below.refl _ _ | apply pw_below_drewN))).ret GD.out rfl rfl rfl (.inr ⟨rfl, rfl⟩)
        rw [if_neg h16] at H
        have d16 : ((out.length : Int) == 16384) = false := by simp; omega
        by_cases hln : out.length < 4294967296
        case neg => rw [if_neg hln] at H; cases H
        rw [if_pos hln] at H
        have HLN := Aside0.mk hln
        clear hln
        replace H := Option.bind_eq_some_iff.mp H
        obtain ⟨⟨t1, t2, t3, t4, t5⟩, A, H⟩ := H
        have HA := Aside0.mk A
        clear A
        dsimp only at H
        by_cases h5 : t5 = 0
        · rw [if_pos h5] at H
          have b5 : (t5 != 0) = false := bne_eq_false_iff_eq.mpr h5
          have b50 : (t5 == 0) = true := beq_iff_eq.mpr h5
          clear h5
          by_cases h4 : 0 ≤ t4 ∧ t4 ≤ 4294967296
          case neg => rw [if_neg h4] at H; cases H
          rw [if_pos h4] at H
          obtain ⟨h40, h41⟩ := h4
          have HH := Aside0.mk H
          clear H
          rcases alt with hb8 | ⟨hb8, he, hl, hlt2⟩
          · go_wp2_with (first | (go_at_call 17; refine (speclex_one.calls g _ _ t1 t2 t3 t4 t5 _ (HGW.out.below (by repeat (first | exact HS.out.B | apply pw_below_drewN))) HA.out).mono ?_; rintro e w9 ⟨rfl, hb⟩; have HS9 := Aside0.mk (HS.out.below (below_step (by repeat (first | exact Below.refl _ _ | apply pw_below_drewN)) hb)); clear hb) | ((with_reducible refine gate_dst (N := 9) rfl ?_); refine box_event ?hg (N := 9) ?hd (cs := #[.int .i64 0, .string (⟨#[]⟩ : ByteArray), .int .i64 0]) (t := 32) ?hr ?_; (case hd => rfl); (case hg => rfl); (case hr => first | (go_simp; done) | (go_simp; rfl)); intro gb hg w10 hbox hb; have BK := Aside0.mk hbox; have SB0 := Aside0.mk (SB.new HS9.out hg hb); clear hbox hb hg; have z0 : w10.cell? ⟨gb, 0, none⟩ = some (.int .i64 0) := (blk_cell BK.out 0).trans rfl; have z1 : w10.cell? ⟨gb, 1, none⟩ = some (.string (⟨#[]⟩ : ByteArray)) := (blk_cell BK.out 1).trans rfl; have z2 : w10.cell? ⟨gb, 2, none⟩ = some (.int .i64 0) := (blk_cell BK.out 2).trans rfl; have y0 := blk_frozen BK.out 0; have y1 := blk_frozen BK.out 1; have y2 := blk_frozen BK.out 2; obtain ⟨x0, x1, x2, ⟨hc0, hc1, hc2⟩, hf0, hf1, hf2⟩ := SB0.out.s.dcell; have nd1 := SB0.out.nd; have nd2 := SB0.out.nd.symm; have z2b : ((((w10.setCell ⟨gb, 0, none⟩ (.int .i64 t1)).setCell ⟨gb, 1, none⟩ (.string t2)).setCell ⟨gb, 2, none⟩ (.int .i64 t3)).setCell ⟨gb, 2, none⟩ (.int .i64 (i : Int))).cell? ⟨gb, 2, none⟩ = some (.int .i64 (i : Int)) := (blk_cell (cs := #[.int .i64 t1, .string t2, .int .i64 (i : Int)]) (blk_put (cs := #[.int .i64 t1, .string t2, .int .i64 t3]) (blk_put (cs := #[.int .i64 t1, .string t2, .int .i64 0]) (blk_put (cs := #[.int .i64 t1, .string (⟨#[]⟩ : ByteArray), .int .i64 0]) (blk_put (cs := #[.int .i64 0, .string (⟨#[]⟩ : ByteArray), .int .i64 0]) BK.out 0 _ rfl) 1 _ rfl) 2 _ rfl) 2 _ rfl) 2).trans rfl) | ((with_reducible refine gate_builtin (b := .append) (xs := #[.tmp 77, .tmp 79]) rfl ?_); at_builtin; refine Kd.R_append k32 (w0 := w) w.heap.size rfl (.tmp 77) (.tmp 79) 23 32 (.agg #[(.int .i64 0), (.string ⟨#[]⟩), (.int .i64 0)]) 32 rfl Tryd.underlying23 info32 rfl (by decide) (by omega) (.slice Ao out.length co) out (⟨t1, t2, (i : Int)⟩ : S32) [.int .i64 t1, .string t2, .int .i64 (i : Int)] (fun k_ => k_ ≠ gb) (fun _ => False) rfl (by first | (go_simp; done) | (go_simp; rfl)) ?aP (fun _ hk => hk.elim) ?aF ?aO ?aB ?aS ?aL ?_; (case aP => exact k32_mkM _ _ _ (⟨t1, t2, (i : Int)⟩ : S32)); (case aB => exact (by (repeat (first | apply below_alloc | apply pw_below_drewN)); exact ((((SB0.out.set 0 _).set 1 _).set 2 _).set 2 _).s.B)); (case aF => exact (fun k_ hk => Kd.freshB (g := gb) (o := .cells #[.int .i64 t1, .string t2, .int .i64 (i : Int)] 32 (0, 0)) (by (with_reducible repeat (first | refine blk_drewN ?_ _ | refine blk_drew ?_ | refine blk_alloc ?_ _)); exact blk_put (cs := #[.int .i64 t1, .string t2, .int .i64 t3]) (blk_put (cs := #[.int .i64 t1, .string t2, .int .i64 0]) (blk_put (cs := #[.int .i64 t1, .string (⟨#[]⟩ : ByteArray), .int .i64 0]) (blk_put (cs := #[.int .i64 0, .string (⟨#[]⟩ : ByteArray), .int .i64 0]) BK.out 0 _ rfl) 1 _ rfl) 2 _ rfl) 2 _ rfl) k_ hk)); (case aO => exact (by (with_reducible repeat (first | apply Kd.R_alloc | apply Kd.R_drewN | apply Kd.R_drew)); exact ((((SB0.out.set 0 _).set 1 _).set 2 _).set 2 _).r)); (case aS => exact (below_size (by (repeat (first | apply below_alloc | apply pw_below_drewN)); exact ((((SB0.out.set 0 _).set 1 _).set 2 _).set 2 _).s.B))); (case aL => have := HLN.out; omega); intro v' w12 ho hb hg hat; have HSN := Aside0.mk (SC.grown (SC.below ((((SB0.out.set 0 _).set 1 _).set 2 _).set 2 _).s (by repeat (first | exact Below.refl _ _ | apply below_alloc | apply pw_below_drewN))) hg hb (Kd.R_mono ho (fun _ _ => trivial))); clear ho hb hg hat))
            go_roundg g
            case measure => omega
            case rel => exact ⟨_, i + t4.toNat, by congr 1; push_cast; omega, HH, HSN⟩
          · rw [hl] at hlv
            go_wp2_with (first | (go_at_call 15; refine (speclex_letter.calls _ _ _ hlv).mono ?_; rintro e w' ⟨rfl, q_, rfl⟩) | (go_at_call 17; refine (speclex_one.calls g _ _ t1 t2 t3 t4 t5 _ (HGW.out.below (by repeat (first | exact HS.out.B | apply pw_below_drewN))) HA.out).mono ?_; rintro e w9 ⟨rfl, hb⟩; have HS9 := Aside0.mk (HS.out.below (below_step (by repeat (first | exact Below.refl _ _ | apply pw_below_drewN)) hb)); clear hb) | ((with_reducible refine gate_dst (N := 9) rfl ?_); refine box_event ?hg (N := 9) ?hd (cs := #[.int .i64 0, .string (⟨#[]⟩ : ByteArray), .int .i64 0]) (t := 32) ?hr ?_; (case hd => rfl); (case hg => rfl); (case hr => first | (go_simp; done) | (go_simp; rfl)); intro gb hg w10 hbox hb; have BK := Aside0.mk hbox; have SB0 := Aside0.mk (SB.new HS9.out hg hb); clear hbox hb hg; have z0 : w10.cell? ⟨gb, 0, none⟩ = some (.int .i64 0) := (blk_cell BK.out 0).trans rfl; have z1 : w10.cell? ⟨gb, 1, none⟩ = some (.string (⟨#[]⟩ : ByteArray)) := (blk_cell BK.out 1).trans rfl; have z2 : w10.cell? ⟨gb, 2, none⟩ = some (.int .i64 0) := (blk_cell BK.out 2).trans rfl; have y0 := blk_frozen BK.out 0; have y1 := blk_frozen BK.out 1; have y2 := blk_frozen BK.out 2; obtain ⟨x0, x1, x2, ⟨hc0, hc1, hc2⟩, hf0, hf1, hf2⟩ := SB0.out.s.dcell; have nd1 := SB0.out.nd; have nd2 := SB0.out.nd.symm; have z2b : ((((w10.setCell ⟨gb, 0, none⟩ (.int .i64 t1)).setCell ⟨gb, 1, none⟩ (.string t2)).setCell ⟨gb, 2, none⟩ (.int .i64 t3)).setCell ⟨gb, 2, none⟩ (.int .i64 (i : Int))).cell? ⟨gb, 2, none⟩ = some (.int .i64 (i : Int)) := (blk_cell (cs := #[.int .i64 t1, .string t2, .int .i64 (i : Int)]) (blk_put (cs := #[.int .i64 t1, .string t2, .int .i64 t3]) (blk_put (cs := #[.int .i64 t1, .string t2, .int .i64 0]) (blk_put (cs := #[.int .i64 t1, .string (⟨#[]⟩ : ByteArray), .int .i64 0]) (blk_put (cs := #[.int .i64 0, .string (⟨#[]⟩ : ByteArray), .int .i64 0]) BK.out 0 _ rfl) 1 _ rfl) 2 _ rfl) 2 _ rfl) 2).trans rfl) | ((with_reducible refine gate_builtin (b := .append) (xs := #[.tmp 77, .tmp 79]) rfl ?_); at_builtin; refine Kd.R_append k32 (w0 := w) w.heap.size rfl (.tmp 77) (.tmp 79) 23 32 (.agg #[(.int .i64 0), (.string ⟨#[]⟩), (.int .i64 0)]) 32 rfl Tryd.underlying23 info32 rfl (by decide) (by omega) (.slice Ao out.length co) out (⟨t1, t2, (i : Int)⟩ : S32) [.int .i64 t1, .string t2, .int .i64 (i : Int)] (fun k_ => k_ ≠ gb) (fun _ => False) rfl (by first | (go_simp; done) | (go_simp; rfl)) ?aP (fun _ hk => hk.elim) ?aF ?aO ?aB ?aS ?aL ?_; (case aP => exact k32_mkM _ _ _ (⟨t1, t2, (i : Int)⟩ : S32)); (case aB => exact (by (repeat (first | apply below_alloc | apply pw_below_drewN)); exact ((((SB0.out.set 0 _).set 1 _).set 2 _).set 2 _).s.B)); (case aF => exact (fun k_ hk => Kd.freshB (g := gb) (o := .cells #[.int .i64 t1, .string t2, .int .i64 (i : Int)] 32 (0, 0)) (by (with_reducible repeat (first | refine blk_drewN ?_ _ | refine blk_drew ?_ | refine blk_alloc ?_ _)); exact blk_put (cs := #[.int .i64 t1, .string t2, .int .i64 t3]) (blk_put (cs := #[.int .i64 t1, .string t2, .int .i64 0]) (blk_put (cs := #[.int .i64 t1, .string (⟨#[]⟩ : ByteArray), .int .i64 0]) (blk_put (cs := #[.int .i64 0, .string (⟨#[]⟩ : ByteArray), .int .i64 0]) BK.out 0 _ rfl) 1 _ rfl) 2 _ rfl) 2 _ rfl) k_ hk)); (case aO => exact (by (with_reducible repeat (first | apply Kd.R_alloc | apply Kd.R_drewN | apply Kd.R_drew)); exact ((((SB0.out.set 0 _).set 1 _).set 2 _).set 2 _).r)); (case aS => exact (below_size (by (repeat (first | apply below_alloc | apply pw_below_drewN)); exact ((((SB0.out.set 0 _).set 1 _).set 2 _).set 2 _).s.B))); (case aL => have := HLN.out; omega); intro v' w12 ho hb hg hat; have HSN := Aside0.mk (SC.grown (SC.below ((((SB0.out.set 0 _).set 1 _).set 2 _).set 2 _).s (by repeat (first | exact Below.refl _ _ | apply below_alloc | apply pw_below_drewN))) hg hb (Kd.R_mono ho (fun _ _ => trivial))); clear ho hb hg hat))
            go_roundg g
            case measure => omega
            case rel => exact ⟨_, i + t4.toNat, by congr 1; push_cast; omega, HH, HSN⟩
        · rw [if_neg h5] at H
          simp only [Option.some.injEq, Prod.mk.injEq] at H
          obtain ⟨rfl, rfl, rfl, rfl⟩ := H
          have b5 : (t5 != 0) = true := bne_iff_ne.mpr h5
          have b50 : (t5 == 0) = false := beq_eq_false_iff_ne.mpr h5
          rcases alt with hb8 | ⟨hb8, he, hl, hlt2⟩
          · go_wp2_with (first | (go_at_call 17; refine (speclex_one.calls g _ _ t1 t2 t3 t4 t5 _ (HGW.out.below (by repeat (first | exact HS.out.B | apply pw_below_drewN))) HA.out).mono ?_; rintro e w9 ⟨rfl, hb⟩; have HS9 := Aside0.mk (HS.out.below (below_step (by repeat (first | exact Below.refl _ _ | apply pw_below_drewN)) hb)); clear hb) | ((with_reducible refine gate_dst (N := 9) rfl ?_); refine box_event ?hg (N := 9) ?hd (cs := #[.int .i64 0, .string (⟨#[]⟩ : ByteArray), .int .i64 0]) (t := 32) ?hr ?_; (case hd => rfl); (case hg => rfl); (case hr => first | (go_simp; done) | (go_simp; rfl)); intro gb hg w10 hbox hb; have BK := Aside0.mk hbox; have SB0 := Aside0.mk (SB.new HS9.out hg hb); clear hbox hb hg; have z0 : w10.cell? ⟨gb, 0, none⟩ = some (.int .i64 0) := (blk_cell BK.out 0).trans rfl; have z1 : w10.cell? ⟨gb, 1, none⟩ = some (.string (⟨#[]⟩ : ByteArray)) := (blk_cell BK.out 1).trans rfl; have z2 : w10.cell? ⟨gb, 2, none⟩ = some (.int .i64 0) := (blk_cell BK.out 2).trans rfl; have y0 := blk_frozen BK.out 0; have y1 := blk_frozen BK.out 1; have y2 := blk_frozen BK.out 2; obtain ⟨x0, x1, x2, ⟨hc0, hc1, hc2⟩, hf0, hf1, hf2⟩ := SB0.out.s.dcell; have nd1 := SB0.out.nd; have nd2 := SB0.out.nd.symm))
            exact (((SB0.out.set 0 _).set 1 _).set 2 _).s.ret GD.out rfl rfl rfl (.inr ⟨rfl, rfl⟩)
          · rw [hl] at hlv
            go_wp2_with (first | (go_at_call 15; refine (speclex_letter.calls _ _ _ hlv).mono ?_; rintro e w' ⟨rfl, q_, rfl⟩) | (go_at_call 17; refine (speclex_one.calls g _ _ t1 t2 t3 t4 t5 _ (HGW.out.below (by repeat (first | exact HS.out.B | apply pw_below_drewN))) HA.out).mono ?_; rintro e w9 ⟨rfl, hb⟩; have HS9 := Aside0.mk (HS.out.below (below_step (by repeat (first | exact Below.refl _ _ | apply pw_below_drewN)) hb)); clear hb) | ((with_reducible refine gate_dst (N := 9) rfl ?_); refine box_event ?hg (N := 9) ?hd (cs := #[.int .i64 0, .string (⟨#[]⟩ : ByteArray), .int .i64 0]) (t := 32) ?hr ?_; (case hd => rfl); (case hg => rfl); (case hr => first | (go_simp; done) | (go_simp; rfl)); intro gb hg w10 hbox hb; have BK := Aside0.mk hbox; have SB0 := Aside0.mk (SB.new HS9.out hg hb); clear hbox hb hg; have z0 : w10.cell? ⟨gb, 0, none⟩ = some (.int .i64 0) := (blk_cell BK.out 0).trans rfl; have z1 : w10.cell? ⟨gb, 1, none⟩ = some (.string (⟨#[]⟩ : ByteArray)) := (blk_cell BK.out 1).trans rfl; have z2 : w10.cell? ⟨gb, 2, none⟩ = some (.int .i64 0) := (blk_cell BK.out 2).trans rfl; have y0 := blk_frozen BK.out 0; have y1 := blk_frozen BK.out 1; have y2 := blk_frozen BK.out 2; obtain ⟨x0, x1, x2, ⟨hc0, hc1, hc2⟩, hf0, hf1, hf2⟩ := SB0.out.s.dcell; have nd1 := SB0.out.nd; have nd2 := SB0.out.nd.symm))
            exact (((SB0.out.set 0 _).set 1 _).set 2 _).s.ret GD.out rfl rfl rfl (.inr ⟨rfl, rfl⟩)
end Go.Proofs.YthijdjpipjbkbaaDoor.H
end
section
namespace Go.Proofs.YthijdjpipjbkbaaDoor.H
open Go.RowKit Go.Proofs.YthijdjpipjbkbaaDoorW.PrintWords Go.Proofs.YthijdjpipjbkbaaDoorW.PrintLast Go.Proofs.YthijdjpipjbkbaaDoorW.PrintMore
attribute [local go_sem] max2_int min2_int max_two min_two max_three min_three max_four min_four
set_option linter.unusedVariables false
set_option linter.unusedSimpArgs false
attribute [local go_sem high] eqA26 eqA32
def arboristlaw11_knows.f (k : Nat)  : Option (Bool) := (speclex_Scan.f k (⟨#[101, 32, 61, 32, 101, 32, 34, 43, 34, 32, 101, 32, 35, 97, 100, 100, 32, 124, 32, 78, 59, 32, 35, 32, 97, 108, 108]⟩ : ByteArray)).bind fun bt120 => ((speclex_Scan.f k (⟨#[47, 97, 92, 47, 98, 47]⟩ : ByteArray)).bind fun bt127 => ((speclex_Scan.f k (⟨#[48, 49]⟩ : ByteArray)).bind fun bt134 => ((speclex_Scan.f k (⟨#[47, 97]⟩ : ByteArray)).bind fun bt141 => (if (bt120.2.1 == 0 && (bt120.2.2.1 == 0 && (bt120.2.2.2.toList == ([] : List UInt8)))) = true then (if (bt127.2.1 == 0 && (bt127.2.2.1 == 0 && (bt127.2.2.2.toList == ([] : List UInt8)))) = true then (if (bt134.2.1 == 14 && (bt134.2.2.1 == 0 && (bt134.2.2.2.toList == ([] : List UInt8)))) = true then (if (bt141.2.1 == 13 && (bt141.2.2.1 == 0 && (bt141.2.2.2.toList == ([] : List UInt8)))) = true then (if (bt120.1.length : Int) = 10 then (if 3 < (bt120.1.length : Int) then (if (((rd_T32 bt120.1 3).f0) == 2 && ((((rd_T32 bt120.1 3).f1).toList) == ([43] : List UInt8) && (((rd_T32 bt120.1 3).f2) == 6))) = true then (if 5 < (bt120.1.length : Int) then (if ((rd_T32 bt120.1 5).f1).toList = ([35] : List UInt8) then (if (bt127.1.length : Int) = 1 then (if 0 < (bt127.1.length : Int) then (if (((rd_T32 bt127.1 0).f0) == 3 && ((((rd_T32 bt127.1 0).f1).toList) == ([97, 92, 47, 98] : List UInt8) && (((rd_T32 bt127.1 0).f2) == 0))) = true then ((speclex_Show.f bt127.1).bind fun t151 => (some (t151.toList == ([47, 97, 92, 47, 98, 47] : List UInt8)))) else (none)) else (none)) else (none)) else (none)) else (none)) else (none)) else (none)) else (none)) else (none)) else (none)) else (none)) else (none)))))
theorem arboristlaw11_knows.mono : ∀ k, LeO (arboristlaw11_knows.f k ) (arboristlaw11_knows.f (k + 1) ) := by
  intro  k
  unfold arboristlaw11_knows.f
  repeat' first
      | (with_reducible exact speclex_Scan.mono _ _)
      | (with_reducible exact LeO.refl _)
      | (with_reducible exact LeO.none _)
      | (with_reducible refine LeO.ite ?_ ?_)
      | (with_reducible refine LeO.bind ?_ (fun _ => ?_))
      | exact speclex_Scan.mono _ _
      | exact LeO.none _
      | refine LeO.ite ?_ ?_
      | refine LeO.bind ?_ (fun _ => ?_)
theorem scan_up {k m : Nat} (h : k ≤ m) {s : ByteArray} {v : List (S32) × Int × Int × ByteArray} (hk : speclex_Scan.f k s = some v) : speclex_Scan.f m s = some v := by
  induction m with
  | zero => obtain rfl : k = 0 := by omega
            exact hk
  | succ m ih =>
    rcases Nat.lt_or_ge k (m + 1) with q | q
    · exact speclex_Scan.mono s m v (ih (by omega))
    · obtain rfl : k = m + 1 := by omega
      exact hk
theorem diag_of (s : ByteArray) (n : Int) (hv : (speclex_Scan.f 60 s).map (fun t => (t.2.1, t.2.2.1, t.2.2.2.data.toList)) = some (n, 0, [])) {k : Nat} {a : List (S32)} {b c : Int} {d : ByteArray} (h : speclex_Scan.f k s = some (a, b, c, d)) : b = n ∧ c = 0 ∧ d = ⟨#[]⟩ := by
  have e : speclex_Scan.f 60 s = some (a, b, c, d) := by
    obtain ⟨C, hC, _⟩ := Option.map_eq_some_iff.1 hv
    rcases Nat.le_total k 60 with q | q
    · exact scan_up q h
    · have := scan_up q hC
      rw [h] at this
      rw [this]; exact hC
  rw [e] at hv
  simp only [Option.map_some, Option.some.injEq, Prod.mk.injEq] at hv
  exact ⟨hv.1, hv.2.1, ba_ext hv.2.2⟩
set_option maxHeartbeats 8000000 in
set_option maxRecDepth 100000 in
theorem arboristlaw11_knows.calls (k : Nat)  (r : Bool) (w : World) (hgw : GW w) (h : arboristlaw11_knows.f k  = some r) :
    Calls Tryd.prog 8 #[] w fun e w' => e = .returned (.bool r) ∧ Below w.heap.size w w' := by
  have HGW := Aside0.mk hgw
  clear hgw
  have hu26 := Tryd.underlying26
  have hu32 := Tryd.underlying32
  have HB := Aside0.mk (Below.refl w.heap.size w)
  have H : ((speclex_Scan.f k (⟨#[101, 32, 61, 32, 101, 32, 34, 43, 34, 32, 101, 32, 35, 97, 100, 100, 32, 124, 32, 78, 59, 32, 35, 32, 97, 108, 108]⟩ : ByteArray)).bind fun bt120 => ((speclex_Scan.f k (⟨#[47, 97, 92, 47, 98, 47]⟩ : ByteArray)).bind fun bt127 => ((speclex_Scan.f k (⟨#[48, 49]⟩ : ByteArray)).bind fun bt134 => ((speclex_Scan.f k (⟨#[47, 97]⟩ : ByteArray)).bind fun bt141 => (if (bt120.2.1 == 0 && (bt120.2.2.1 == 0 && (bt120.2.2.2.toList == ([] : List UInt8)))) = true then (if (bt127.2.1 == 0 && (bt127.2.2.1 == 0 && (bt127.2.2.2.toList == ([] : List UInt8)))) = true then (if (bt134.2.1 == 14 && (bt134.2.2.1 == 0 && (bt134.2.2.2.toList == ([] : List UInt8)))) = true then (if (bt141.2.1 == 13 && (bt141.2.2.1 == 0 && (bt141.2.2.2.toList == ([] : List UInt8)))) = true then (if (bt120.1.length : Int) = 10 then (if 3 < (bt120.1.length : Int) then (if (((rd_T32 bt120.1 3).f0) == 2 && ((((rd_T32 bt120.1 3).f1).toList) == ([43] : List UInt8) && (((rd_T32 bt120.1 3).f2) == 6))) = true then (if 5 < (bt120.1.length : Int) then (if ((rd_T32 bt120.1 5).f1).toList = ([35] : List UInt8) then (if (bt127.1.length : Int) = 1 then (if 0 < (bt127.1.length : Int) then (if (((rd_T32 bt127.1 0).f0) == 3 && ((((rd_T32 bt127.1 0).f1).toList) == ([97, 92, 47, 98] : List UInt8) && (((rd_T32 bt127.1 0).f2) == 0))) = true then ((speclex_Show.f bt127.1).bind fun t151 => (some (t151.toList == ([47, 97, 92, 47, 98, 47] : List UInt8)))) else (none)) else (none)) else (none)) else (none)) else (none)) else (none)) else (none)) else (none)) else (none)) else (none)) else (none)) else (none)))))) = some r := h
  clear h
  replace H := Option.bind_eq_some_iff.mp H
  obtain ⟨⟨t120, t123, t124, t125⟩, A10, H⟩ := H
  replace H : ((speclex_Scan.f k (⟨#[47, 97, 92, 47, 98, 47]⟩ : ByteArray)).bind fun bt127 => ((speclex_Scan.f k (⟨#[48, 49]⟩ : ByteArray)).bind fun bt134 => ((speclex_Scan.f k (⟨#[47, 97]⟩ : ByteArray)).bind fun bt141 => (if (t123 == 0 && (t124 == 0 && (t125.toList == ([] : List UInt8)))) = true then (if (bt127.2.1 == 0 && (bt127.2.2.1 == 0 && (bt127.2.2.2.toList == ([] : List UInt8)))) = true then (if (bt134.2.1 == 14 && (bt134.2.2.1 == 0 && (bt134.2.2.2.toList == ([] : List UInt8)))) = true then (if (bt141.2.1 == 13 && (bt141.2.2.1 == 0 && (bt141.2.2.2.toList == ([] : List UInt8)))) = true then (if (t120.length : Int) = 10 then (if 3 < (t120.length : Int) then (if (((rd_T32 t120 3).f0) == 2 && ((((rd_T32 t120 3).f1).toList) == ([43] : List UInt8) && (((rd_T32 t120 3).f2) == 6))) = true then (if 5 < (t120.length : Int) then (if ((rd_T32 t120 5).f1).toList = ([35] : List UInt8) then (if (bt127.1.length : Int) = 1 then (if 0 < (bt127.1.length : Int) then (if (((rd_T32 bt127.1 0).f0) == 3 && ((((rd_T32 bt127.1 0).f1).toList) == ([97, 92, 47, 98] : List UInt8) && (((rd_T32 bt127.1 0).f2) == 0))) = true then ((speclex_Show.f bt127.1).bind fun t151 => (some (t151.toList == ([47, 97, 92, 47, 98, 47] : List UInt8)))) else (none)) else (none)) else (none)) else (none)) else (none)) else (none)) else (none)) else (none)) else (none)) else (none)) else (none)) else (none))))) = some r := H
  have A1 := Aside0.mk A10
  clear A10
  replace H := Option.bind_eq_some_iff.mp H
  obtain ⟨⟨t127, t130, t131, t132⟩, A20, H⟩ := H
  replace H : ((speclex_Scan.f k (⟨#[48, 49]⟩ : ByteArray)).bind fun bt134 => ((speclex_Scan.f k (⟨#[47, 97]⟩ : ByteArray)).bind fun bt141 => (if (t123 == 0 && (t124 == 0 && (t125.toList == ([] : List UInt8)))) = true then (if (t130 == 0 && (t131 == 0 && (t132.toList == ([] : List UInt8)))) = true then (if (bt134.2.1 == 14 && (bt134.2.2.1 == 0 && (bt134.2.2.2.toList == ([] : List UInt8)))) = true then (if (bt141.2.1 == 13 && (bt141.2.2.1 == 0 && (bt141.2.2.2.toList == ([] : List UInt8)))) = true then (if (t120.length : Int) = 10 then (if 3 < (t120.length : Int) then (if (((rd_T32 t120 3).f0) == 2 && ((((rd_T32 t120 3).f1).toList) == ([43] : List UInt8) && (((rd_T32 t120 3).f2) == 6))) = true then (if 5 < (t120.length : Int) then (if ((rd_T32 t120 5).f1).toList = ([35] : List UInt8) then (if (t127.length : Int) = 1 then (if 0 < (t127.length : Int) then (if (((rd_T32 t127 0).f0) == 3 && ((((rd_T32 t127 0).f1).toList) == ([97, 92, 47, 98] : List UInt8) && (((rd_T32 t127 0).f2) == 0))) = true then ((speclex_Show.f t127).bind fun t151 => (some (t151.toList == ([47, 97, 92, 47, 98, 47] : List UInt8)))) else (none)) else (none)) else (none)) else (none)) else (none)) else (none)) else (none)) else (none)) else (none)) else (none)) else (none)) else (none)))) = some r := H
  have A2 := Aside0.mk A20
  clear A20
  replace H := Option.bind_eq_some_iff.mp H
  obtain ⟨⟨t134, t137, t138, t139⟩, A30, H⟩ := H
  replace H : ((speclex_Scan.f k (⟨#[47, 97]⟩ : ByteArray)).bind fun bt141 => (if (t123 == 0 && (t124 == 0 && (t125.toList == ([] : List UInt8)))) = true then (if (t130 == 0 && (t131 == 0 && (t132.toList == ([] : List UInt8)))) = true then (if (t137 == 14 && (t138 == 0 && (t139.toList == ([] : List UInt8)))) = true then (if (bt141.2.1 == 13 && (bt141.2.2.1 == 0 && (bt141.2.2.2.toList == ([] : List UInt8)))) = true then (if (t120.length : Int) = 10 then (if 3 < (t120.length : Int) then (if (((rd_T32 t120 3).f0) == 2 && ((((rd_T32 t120 3).f1).toList) == ([43] : List UInt8) && (((rd_T32 t120 3).f2) == 6))) = true then (if 5 < (t120.length : Int) then (if ((rd_T32 t120 5).f1).toList = ([35] : List UInt8) then (if (t127.length : Int) = 1 then (if 0 < (t127.length : Int) then (if (((rd_T32 t127 0).f0) == 3 && ((((rd_T32 t127 0).f1).toList) == ([97, 92, 47, 98] : List UInt8) && (((rd_T32 t127 0).f2) == 0))) = true then ((speclex_Show.f t127).bind fun t151 => (some (t151.toList == ([47, 97, 92, 47, 98, 47] : List UInt8)))) else (none)) else (none)) else (none)) else (none)) else (none)) else (none)) else (none)) else (none)) else (none)) else (none)) else (none)) else (none))) = some r := H
  have A3 := Aside0.mk A30
  clear A30
  replace H := Option.bind_eq_some_iff.mp H
  obtain ⟨⟨t141, t144, t145, t146⟩, A40, H⟩ := H
  replace H : (if (t123 == 0 && (t124 == 0 && (t125.toList == ([] : List UInt8)))) = true then (if (t130 == 0 && (t131 == 0 && (t132.toList == ([] : List UInt8)))) = true then (if (t137 == 14 && (t138 == 0 && (t139.toList == ([] : List UInt8)))) = true then (if (t144 == 13 && (t145 == 0 && (t146.toList == ([] : List UInt8)))) = true then (if (t120.length : Int) = 10 then (if 3 < (t120.length : Int) then (if (((rd_T32 t120 3).f0) == 2 && ((((rd_T32 t120 3).f1).toList) == ([43] : List UInt8) && (((rd_T32 t120 3).f2) == 6))) = true then (if 5 < (t120.length : Int) then (if ((rd_T32 t120 5).f1).toList = ([35] : List UInt8) then (if (t127.length : Int) = 1 then (if 0 < (t127.length : Int) then (if (((rd_T32 t127 0).f0) == 3 && ((((rd_T32 t127 0).f1).toList) == ([97, 92, 47, 98] : List UInt8) && (((rd_T32 t127 0).f2) == 0))) = true then ((speclex_Show.f t127).bind fun t151 => (some (t151.toList == ([47, 97, 92, 47, 98, 47] : List UInt8)))) else (none)) else (none)) else (none)) else (none)) else (none)) else (none)) else (none)) else (none)) else (none)) else (none)) else (none)) else (none)) = some r := H
  have A4 := Aside0.mk A40
  clear A40
  obtain ⟨rfl, rfl, rfl⟩ := diag_of (⟨#[101, 32, 61, 32, 101, 32, 34, 43, 34, 32, 101, 32, 35, 97, 100, 100, 32, 124, 32, 78, 59, 32, 35, 32, 97, 108, 108]⟩ : ByteArray) 0 (by kernel_rfl) A1.out
  obtain ⟨rfl, rfl, rfl⟩ := diag_of (⟨#[47, 97, 92, 47, 98, 47]⟩ : ByteArray) 0 (by kernel_rfl) A2.out
  obtain ⟨rfl, rfl, rfl⟩ := diag_of (⟨#[48, 49]⟩ : ByteArray) 14 (by kernel_rfl) A3.out
  obtain ⟨rfl, rfl, rfl⟩ := diag_of (⟨#[47, 97]⟩ : ByteArray) 13 (by kernel_rfl) A4.out
  by_cases c5 : ((0 : Int) == 0 && ((0 : Int) == 0 && ((⟨#[]⟩ : ByteArray).toList == ([] : List UInt8)))) = true
  · rw [if_pos c5] at H
    have c5b0 : ((0 : Int) == 0 && ((0 : Int) == 0 && ((⟨#[]⟩ : ByteArray).toList == ([] : List UInt8)))) = true := c5
    clear c5
    by_cases c6 : ((0 : Int) == 0 && ((0 : Int) == 0 && ((⟨#[]⟩ : ByteArray).toList == ([] : List UInt8)))) = true
    · rw [if_pos c6] at H
      have c6b0 : ((0 : Int) == 0 && ((0 : Int) == 0 && ((⟨#[]⟩ : ByteArray).toList == ([] : List UInt8)))) = true := c6
      clear c6
      by_cases c7 : ((14 : Int) == 14 && ((0 : Int) == 0 && ((⟨#[]⟩ : ByteArray).toList == ([] : List UInt8)))) = true
      · rw [if_pos c7] at H
        have c7b0 : ((14 : Int) == 14 && ((0 : Int) == 0 && ((⟨#[]⟩ : ByteArray).toList == ([] : List UInt8)))) = true := c7
        clear c7
        by_cases c8 : ((13 : Int) == 13 && ((0 : Int) == 0 && ((⟨#[]⟩ : ByteArray).toList == ([] : List UInt8)))) = true
        · rw [if_pos c8] at H
          have c8b0 : ((13 : Int) == 13 && ((0 : Int) == 0 && ((⟨#[]⟩ : ByteArray).toList == ([] : List UInt8)))) = true := c8
          clear c8
          by_cases c9 : (t120.length : Int) = 10
          · rw [if_pos c9] at H
            have c9b0 : ((t120.length : Int) == 10) = true := beq_iff_eq.mpr c9
            have c9b1 : ((t120.length : Int) != 10) = false := bne_eq_false_iff_eq.mpr c9
            clear c9
            by_cases c10 : 3 < (t120.length : Int)
            · rw [if_pos c10] at H
              have c10b0 : decide (3 < (t120.length : Int)) = true := decide_eq_true c10
              have c10b1 : decide (3 < t120.length) = true := decide_eq_true (by omega)
              clear c10
              by_cases c11 : (((rd_T32 t120 3).f0) == 2 && ((((rd_T32 t120 3).f1).toList) == ([43] : List UInt8) && (((rd_T32 t120 3).f2) == 6))) = true
              · rw [if_pos c11] at H
                have c11b0 : (((rd_T32 t120 3).f0) == 2 && ((((rd_T32 t120 3).f1).toList) == ([43] : List UInt8) && (((rd_T32 t120 3).f2) == 6))) = true := c11
                (try (have c11b1 : decide (((rd_T32 t120 3).f0) = 2 && ((((rd_T32 t120 3).f1).toList) == ([43] : List UInt8) && (((rd_T32 t120 3).f2) == 6))) = true := by simpa using c11))
                (try (have c11b2 : (((rd_T32 t120 3).f0) == 2 && ((((rd_T32 t120 3).f1).toList) == ([43] : List UInt8) && (((rd_T32 t120 3).f2) == 6))) = true := by simpa using c11))
                clear c11
                by_cases c12 : 5 < (t120.length : Int)
                · rw [if_pos c12] at H
                  have c12b0 : decide (5 < (t120.length : Int)) = true := decide_eq_true c12
                  have c12b1 : decide (5 < t120.length) = true := decide_eq_true (by omega)
                  clear c12
                  by_cases c13 : ((rd_T32 t120 5).f1).toList = ([35] : List UInt8)
                  · rw [if_pos c13] at H
                    have c13b0 : (((rd_T32 t120 5).f1).toList == ([35] : List UInt8)) = true := beq_iff_eq.mpr c13
                    have c13b1 : (((rd_T32 t120 5).f1).toList != ([35] : List UInt8)) = false := bne_eq_false_iff_eq.mpr c13
                    clear c13
                    by_cases c14 : (t127.length : Int) = 1
                    · rw [if_pos c14] at H
                      have c14b0 : ((t127.length : Int) == 1) = true := beq_iff_eq.mpr c14
                      have c14b1 : ((t127.length : Int) != 1) = false := bne_eq_false_iff_eq.mpr c14
                      clear c14
                      by_cases c15 : 0 < (t127.length : Int)
                      · rw [if_pos c15] at H
                        have c15b0 : decide (0 < (t127.length : Int)) = true := decide_eq_true c15
                        have c15b1 : decide (0 < t127.length) = true := decide_eq_true (by omega)
                        clear c15
                        by_cases c16 : (((rd_T32 t127 0).f0) == 3 && ((((rd_T32 t127 0).f1).toList) == ([97, 92, 47, 98] : List UInt8) && (((rd_T32 t127 0).f2) == 0))) = true
                        · rw [if_pos c16] at H
                          have c16b0 : (((rd_T32 t127 0).f0) == 3 && ((((rd_T32 t127 0).f1).toList) == ([97, 92, 47, 98] : List UInt8) && (((rd_T32 t127 0).f2) == 0))) = true := c16
                          (try (have c16b1 : decide (((rd_T32 t127 0).f0) = 3 && ((((rd_T32 t127 0).f1).toList) == ([97, 92, 47, 98] : List UInt8) && (((rd_T32 t127 0).f2) == 0))) = true := by simpa using c16))
                          (try (have c16b2 : (((rd_T32 t127 0).f0) == 3 && ((((rd_T32 t127 0).f1).toList) == ([97, 92, 47, 98] : List UInt8) && (((rd_T32 t127 0).f2) == 0))) = true := by simpa using c16))
                          clear c16
                          replace H := Option.bind_eq_some_iff.mp H
                          obtain ⟨t151, A170, H⟩ := H
                          replace H : (some (t151.toList == ([47, 97, 92, 47, 98, 47] : List UInt8))) = some r := H
                          have A17 := Aside0.mk A170
                          clear A170
                          obtain rfl := Option.some.inj H
                          go_enter Tryd.func8, Tryd.ntmps8
                          go_wp2_with (first | ((with_reducible refine gate_callee (f := 9) rfl ?_); refine goesL_ (some 10) rfl rfl Tryd.func9 (by kernel_rfl) rfl #[.string (⟨#[101, 32, 61, 32, 101, 32, 34, 43, 34, 32, 101, 32, 35, 97, 100, 100, 32, 124, 32, 78, 59, 32, 35, 32, 97, 108, 108]⟩ : ByteArray)] rfl (by (try simp only [List.map_toArray, List.map_cons, List.map_nil]); first | done | rfl | (simp only [List.length_drop, List.length_take]; rfl)) ?_; (with_reducible refine (speclex_Scan.calls k (⟨#[101, 32, 61, 32, 101, 32, 34, 43, 34, 32, 101, 32, 35, 97, 100, 100, 32, 124, 32, 78, 59, 32, 35, 32, 97, 108, 108]⟩ : ByteArray) t120 (0 : Int) (0 : Int) (⟨#[]⟩ : ByteArray) _ ?side1 A1.out).mono ?_); (case side1 => exact GW.below HGW.out (by repeat (first | (with_reducible first | exact HB.out | apply below_alloc | apply pw_below_drewN | apply below_drew1) | exact HB.out))); rintro e w18 ⟨v121, rfl, ho0, hb⟩; refine ⟨_, rfl, ?_⟩; have n0_ := Aside0.mk (Kd.R_lower ho0 (below_size (by repeat (first | (with_reducible first | exact HB.out | apply below_alloc | apply pw_below_drewN | apply below_drew1) | exact HB.out)))); have n1_ := Aside0.mk (below_step (by repeat (first | (with_reducible first | exact HB.out | apply below_alloc | apply pw_below_drewN | apply below_drew1) | exact HB.out)) hb); clear HB; have HO122 := n0_; have HB := n1_; clear n0_ n1_; (try clear hb); (try clear hb2); (try clear hk); (try clear hi); (try clear ho0)) | ((with_reducible refine gate_dst (N := 2) rfl ?_); (try (refine gate_guard (by rfl) ?_; dsimp only)); refine box_event ?hg (N := 2) ?hd (cs := #[.int .i64 0, .int .i64 0, .string (⟨#[]⟩ : ByteArray)]) (t := 26) ?hr ?_; (case hd => rfl); (case hg => rfl); (case hr => first | (go_simp; done) | (go_simp; rfl)); intro gb126 hg w19 hbox hb; have n0_ := Aside0.mk (Kd.R_below (by (with_reducible repeat (first | apply Kd.R_alloc | apply Kd.R_drewN | apply Kd.R_drew)); exact HO122.out) hb); have n1_ := Aside0.mk (below_step (by repeat (first | (with_reducible first | exact HB.out | apply below_alloc | apply pw_below_drewN | apply below_drew1) | exact HB.out)) hb); have n2_ := Aside0.mk (hbox); have n3_ := Aside0.mk ((by rw [hg]; exact (below_size (by repeat (first | (with_reducible first | exact HB.out | apply below_alloc | apply pw_below_drewN | apply below_drew1) | exact HB.out))) : w.heap.size ≤ gb126)); have n4_ := Aside0.mk ((by rw [hg]; exact (below_size (by repeat (first | (with_reducible first | exact HB.out | apply below_alloc | apply pw_below_drewN | apply below_drew1) | exact HB.out))) : w.heap.size ≤ gb126)); clear HO122; clear HB; have HO122 := n0_; have HB := n1_; have BK126 := n2_; have GW126 := n3_; have GE126 := n4_; clear n0_ n1_ n2_ n3_ n4_; clear hb hbox hg; have hcz20_0 : w19.cell? ⟨gb126, 0, none⟩ = some (.int .i64 0) := (blk_cell BK126.out 0).trans rfl; have hcz20_1 : w19.cell? ⟨gb126, 1, none⟩ = some (.int .i64 0) := (blk_cell BK126.out 1).trans rfl; have hcz20_2 : w19.cell? ⟨gb126, 2, none⟩ = some (.string (⟨#[]⟩ : ByteArray)) := (blk_cell BK126.out 2).trans rfl; have hfz20_0 := blk_frozen BK126.out 0; have hfz20_1 := blk_frozen BK126.out 1; have hfz20_2 := blk_frozen BK126.out 2) | ((with_reducible refine gate_callee (f := 9) rfl ?_); refine goesL_ (some 14) rfl rfl Tryd.func9 (by kernel_rfl) rfl #[.string (⟨#[47, 97, 92, 47, 98, 47]⟩ : ByteArray)] rfl (by (try simp only [List.map_toArray, List.map_cons, List.map_nil]); first | done | rfl | (simp only [List.length_drop, List.length_take]; rfl)) ?_; (with_reducible refine (speclex_Scan.calls k (⟨#[47, 97, 92, 47, 98, 47]⟩ : ByteArray) t127 (0 : Int) (0 : Int) (⟨#[]⟩ : ByteArray) _ ?side1 A2.out).mono ?_); (case side1 => exact GW.below HGW.out (by repeat (first | (with_reducible first | exact HB.out | apply below_alloc | apply pw_below_drewN | apply below_drew1 | refine below_set ?_ GE126.out) | exact HB.out))); rintro e w21 ⟨v128, rfl, ho0, hb⟩; refine ⟨_, rfl, ?_⟩; have n0_ := Aside0.mk (Kd.R_elder' (by (with_reducible repeat (first | apply Kd.R_alloc | apply Kd.R_drewN | apply Kd.R_drew)); exact (Kd.R_mono (Kd.R_far (p := ⟨gb126, 2, none⟩) (Kd.R_far (p := ⟨gb126, 1, none⟩) (Kd.R_far (p := ⟨gb126, 0, none⟩) (Kd.R_types HO122.out BK126.out (by decide)) (fun _ hk => hk.2) (.int .i64 (0 : Int))) (fun _ hk => hk.2) (.int .i64 (0 : Int))) (fun _ hk => hk.2) (.string (⟨#[]⟩ : ByteArray))) (fun _ h_ => h_.1))) (Kd.R_base ho0) hb); have n1_ := Aside0.mk (Kd.R_lower (Kd.R_new' ho0 (Kd.R_lt (by (with_reducible repeat (first | apply Kd.R_alloc | apply Kd.R_drewN | apply Kd.R_drew)); exact (Kd.R_mono (Kd.R_far (p := ⟨gb126, 2, none⟩) (Kd.R_far (p := ⟨gb126, 1, none⟩) (Kd.R_far (p := ⟨gb126, 0, none⟩) (Kd.R_types HO122.out BK126.out (by decide)) (fun _ hk => hk.2) (.int .i64 (0 : Int))) (fun _ hk => hk.2) (.int .i64 (0 : Int))) (fun _ hk => hk.2) (.string (⟨#[]⟩ : ByteArray))) (fun _ h_ => h_.1))))) (below_size (by repeat (first | (with_reducible first | exact HB.out | apply below_alloc | apply pw_below_drewN | apply below_drew1 | refine below_set ?_ GE126.out) | exact HB.out)))); have n2_ := Aside0.mk (blk_below (g := gb126) (o := .cells #[.int .i64 (0 : Int), .int .i64 (0 : Int), .string (⟨#[]⟩ : ByteArray)] 26 (0, 0)) (by (with_reducible repeat (first | refine blk_drewN ?_ _ | refine blk_drew ?_ | refine blk_alloc ?_ _)); refine blk_put (cs := #[.int .i64 (0 : Int), .int .i64 (0 : Int), .string (⟨#[]⟩ : ByteArray)]) ?_ 2 _ rfl; (with_reducible repeat (first | refine blk_drewN ?_ _ | refine blk_drew ?_ | refine blk_alloc ?_ _)); refine blk_put (cs := #[.int .i64 (0 : Int), .int .i64 0, .string (⟨#[]⟩ : ByteArray)]) ?_ 1 _ rfl; (with_reducible repeat (first | refine blk_drewN ?_ _ | refine blk_drew ?_ | refine blk_alloc ?_ _)); refine blk_put (cs := #[.int .i64 0, .int .i64 0, .string (⟨#[]⟩ : ByteArray)]) ?_ 0 _ rfl; (with_reducible repeat (first | refine blk_drewN ?_ _ | refine blk_drew ?_ | refine blk_alloc ?_ _)); exact BK126.out) hb); have n3_ := Aside0.mk (below_step (by repeat (first | (with_reducible first | exact HB.out | apply below_alloc | apply pw_below_drewN | apply below_drew1 | refine below_set ?_ GE126.out) | exact HB.out)) hb); clear HO122; clear BK126; clear HB; have HO122 := n0_; have HO129 := n1_; have BK126 := n2_; have HB := n3_; clear n0_ n1_ n2_ n3_; (try clear hb); (try clear hb2); (try clear hk); (try clear hi); (try clear ho0)) | ((with_reducible refine gate_dst (N := 4) rfl ?_); (try (refine gate_guard (by rfl) ?_; dsimp only)); refine box_event ?hg (N := 4) ?hd (cs := #[.int .i64 0, .int .i64 0, .string (⟨#[]⟩ : ByteArray)]) (t := 26) ?hr ?_; (case hd => rfl); (case hg => rfl); (case hr => first | (go_simp; done) | (go_simp; rfl)); intro gb133 hg w22 hbox hb; have n0_ := Aside0.mk (Kd.R_below (by (with_reducible repeat (first | apply Kd.R_alloc | apply Kd.R_drewN | apply Kd.R_drew)); exact HO122.out) hb); have n1_ := Aside0.mk (Kd.R_below (by (with_reducible repeat (first | apply Kd.R_alloc | apply Kd.R_drewN | apply Kd.R_drew)); exact HO129.out) hb); have n2_ := Aside0.mk (blk_below (g := gb126) (o := .cells #[.int .i64 (0 : Int), .int .i64 (0 : Int), .string (⟨#[]⟩ : ByteArray)] 26 (0, 0)) (by (with_reducible repeat (first | refine blk_drewN ?_ _ | refine blk_drew ?_ | refine blk_alloc ?_ _)); exact BK126.out) hb); have n3_ := Aside0.mk (below_step (by repeat (first | (with_reducible first | exact HB.out | apply below_alloc | apply pw_below_drewN | apply below_drew1 | refine below_set ?_ GE126.out) | exact HB.out)) hb); have n4_ := Aside0.mk (hbox); have n5_ := Aside0.mk ((by rw [hg]; exact (below_size (by repeat (first | (with_reducible first | exact HB.out | apply below_alloc | apply pw_below_drewN | apply below_drew1 | refine below_set ?_ GE126.out) | exact HB.out))) : w.heap.size ≤ gb133)); have n6_ := Aside0.mk ((by rw [hg]; exact (below_size (by repeat (first | (with_reducible first | exact HB.out | apply below_alloc | apply pw_below_drewN | apply below_drew1 | refine below_set ?_ GE126.out) | exact HB.out))) : w.heap.size ≤ gb133)); have n7_ := Aside0.mk ((by rw [hg]; exact Nat.ne_of_lt (blk_lt (g := gb126) (o := .cells #[.int .i64 (0 : Int), .int .i64 (0 : Int), .string (⟨#[]⟩ : ByteArray)] 26 (0, 0)) (by (with_reducible repeat (first | refine blk_drewN ?_ _ | refine blk_drew ?_ | refine blk_alloc ?_ _)); exact BK126.out)) : gb126 ≠ gb133)); have n8_ := Aside0.mk ((by rw [hg]; exact Nat.ne_of_gt (blk_lt (g := gb126) (o := .cells #[.int .i64 (0 : Int), .int .i64 (0 : Int), .string (⟨#[]⟩ : ByteArray)] 26 (0, 0)) (by (with_reducible repeat (first | refine blk_drewN ?_ _ | refine blk_drew ?_ | refine blk_alloc ?_ _)); exact BK126.out)) : gb133 ≠ gb126)); clear HO122; clear HO129; clear BK126; clear HB; have HO122 := n0_; have HO129 := n1_; have BK126 := n2_; have HB := n3_; have BK133 := n4_; have GW133 := n5_; have GE133 := n6_; have NB126_133 := n7_; have NB133_126 := n8_; clear n0_ n1_ n2_ n3_ n4_ n5_ n6_ n7_ n8_; clear hb hbox hg; have hnb23 := NB133_126.out; have hnc23 := NB126_133.out; have hcz24_0 : w22.cell? ⟨gb133, 0, none⟩ = some (.int .i64 0) := (blk_cell BK133.out 0).trans rfl; have hcz24_1 : w22.cell? ⟨gb133, 1, none⟩ = some (.int .i64 0) := (blk_cell BK133.out 1).trans rfl; have hcz24_2 : w22.cell? ⟨gb133, 2, none⟩ = some (.string (⟨#[]⟩ : ByteArray)) := (blk_cell BK133.out 2).trans rfl; have hfz24_0 := blk_frozen BK133.out 0; have hfz24_1 := blk_frozen BK133.out 1; have hfz24_2 := blk_frozen BK133.out 2) | ((with_reducible refine gate_callee (f := 9) rfl ?_); refine goesL_ (some 18) rfl rfl Tryd.func9 (by kernel_rfl) rfl #[.string (⟨#[48, 49]⟩ : ByteArray)] rfl (by (try simp only [List.map_toArray, List.map_cons, List.map_nil]); first | done | rfl | (simp only [List.length_drop, List.length_take]; rfl)) ?_; (with_reducible refine (speclex_Scan.calls k (⟨#[48, 49]⟩ : ByteArray) t134 (14 : Int) (0 : Int) (⟨#[]⟩ : ByteArray) _ ?side1 A3.out).mono ?_); (case side1 => exact GW.below HGW.out (by repeat (first | (with_reducible first | exact HB.out | apply below_alloc | apply pw_below_drewN | apply below_drew1 | refine below_set ?_ GE126.out | refine below_set ?_ GE133.out) | exact HB.out))); rintro e w25 ⟨v135, rfl, ho0, hb⟩; refine ⟨_, rfl, ?_⟩; have n0_ := Aside0.mk (Kd.R_elder' (by (with_reducible repeat (first | apply Kd.R_alloc | apply Kd.R_drewN | apply Kd.R_drew)); exact (Kd.R_mono (Kd.R_far (p := ⟨gb133, 2, none⟩) (Kd.R_far (p := ⟨gb133, 1, none⟩) (Kd.R_far (p := ⟨gb133, 0, none⟩) (Kd.R_types HO122.out BK133.out (by decide)) (fun _ hk => hk.2) (.int .i64 (0 : Int))) (fun _ hk => hk.2) (.int .i64 (0 : Int))) (fun _ hk => hk.2) (.string (⟨#[]⟩ : ByteArray))) (fun _ h_ => h_.1))) (Kd.R_base ho0) hb); have n1_ := Aside0.mk (Kd.R_elder' (by (with_reducible repeat (first | apply Kd.R_alloc | apply Kd.R_drewN | apply Kd.R_drew)); exact (Kd.R_mono (Kd.R_far (p := ⟨gb133, 2, none⟩) (Kd.R_far (p := ⟨gb133, 1, none⟩) (Kd.R_far (p := ⟨gb133, 0, none⟩) (Kd.R_types HO129.out BK133.out (by decide)) (fun _ hk => hk.2) (.int .i64 (0 : Int))) (fun _ hk => hk.2) (.int .i64 (0 : Int))) (fun _ hk => hk.2) (.string (⟨#[]⟩ : ByteArray))) (fun _ h_ => h_.1))) (Kd.R_base ho0) hb); have n2_ := Aside0.mk (Kd.R_lower (Kd.R_new' (Kd.R_new' ho0 (Kd.R_lt (by (with_reducible repeat (first | apply Kd.R_alloc | apply Kd.R_drewN | apply Kd.R_drew)); exact (Kd.R_mono (Kd.R_far (p := ⟨gb133, 2, none⟩) (Kd.R_far (p := ⟨gb133, 1, none⟩) (Kd.R_far (p := ⟨gb133, 0, none⟩) (Kd.R_types HO122.out BK133.out (by decide)) (fun _ hk => hk.2) (.int .i64 (0 : Int))) (fun _ hk => hk.2) (.int .i64 (0 : Int))) (fun _ hk => hk.2) (.string (⟨#[]⟩ : ByteArray))) (fun _ h_ => h_.1))))) (Kd.R_lt (by (with_reducible repeat (first | apply Kd.R_alloc | apply Kd.R_drewN | apply Kd.R_drew)); exact (Kd.R_mono (Kd.R_far (p := ⟨gb133, 2, none⟩) (Kd.R_far (p := ⟨gb133, 1, none⟩) (Kd.R_far (p := ⟨gb133, 0, none⟩) (Kd.R_types HO129.out BK133.out (by decide)) (fun _ hk => hk.2) (.int .i64 (0 : Int))) (fun _ hk => hk.2) (.int .i64 (0 : Int))) (fun _ hk => hk.2) (.string (⟨#[]⟩ : ByteArray))) (fun _ h_ => h_.1))))) (below_size (by repeat (first | (with_reducible first | exact HB.out | apply below_alloc | apply pw_below_drewN | apply below_drew1 | refine below_set ?_ GE126.out | refine below_set ?_ GE133.out) | exact HB.out)))); have n3_ := Aside0.mk (blk_below (g := gb126) (o := .cells #[.int .i64 (0 : Int), .int .i64 (0 : Int), .string (⟨#[]⟩ : ByteArray)] 26 (0, 0)) (by (with_reducible repeat (first | refine blk_drewN ?_ _ | refine blk_drew ?_ | refine blk_alloc ?_ _)); refine blk_far ?_ NB126_133.out _; (with_reducible repeat (first | refine blk_drewN ?_ _ | refine blk_drew ?_ | refine blk_alloc ?_ _)); refine blk_far ?_ NB126_133.out _; (with_reducible repeat (first | refine blk_drewN ?_ _ | refine blk_drew ?_ | refine blk_alloc ?_ _)); refine blk_far ?_ NB126_133.out _; (with_reducible repeat (first | refine blk_drewN ?_ _ | refine blk_drew ?_ | refine blk_alloc ?_ _)); exact BK126.out) hb); have n4_ := Aside0.mk (blk_below (g := gb133) (o := .cells #[.int .i64 (0 : Int), .int .i64 (0 : Int), .string (⟨#[]⟩ : ByteArray)] 26 (0, 0)) (by (with_reducible repeat (first | refine blk_drewN ?_ _ | refine blk_drew ?_ | refine blk_alloc ?_ _)); refine blk_put (cs := #[.int .i64 (0 : Int), .int .i64 (0 : Int), .string (⟨#[]⟩ : ByteArray)]) ?_ 2 _ rfl; (with_reducible repeat (first | refine blk_drewN ?_ _ | refine blk_drew ?_ | refine blk_alloc ?_ _)); refine blk_put (cs := #[.int .i64 (0 : Int), .int .i64 0, .string (⟨#[]⟩ : ByteArray)]) ?_ 1 _ rfl; (with_reducible repeat (first | refine blk_drewN ?_ _ | refine blk_drew ?_ | refine blk_alloc ?_ _)); refine blk_put (cs := #[.int .i64 0, .int .i64 0, .string (⟨#[]⟩ : ByteArray)]) ?_ 0 _ rfl; (with_reducible repeat (first | refine blk_drewN ?_ _ | refine blk_drew ?_ | refine blk_alloc ?_ _)); exact BK133.out) hb); have n5_ := Aside0.mk (below_step (by repeat (first | (with_reducible first | exact HB.out | apply below_alloc | apply pw_below_drewN | apply below_drew1 | refine below_set ?_ GE126.out | refine below_set ?_ GE133.out) | exact HB.out)) hb); clear HO122; clear HO129; clear BK126; clear BK133; clear HB; have HO122 := n0_; have HO129 := n1_; have HO136 := n2_; have BK126 := n3_; have BK133 := n4_; have HB := n5_; clear n0_ n1_ n2_ n3_ n4_ n5_; (try clear hb); (try clear hb2); (try clear hk); (try clear hi); (try clear ho0)) | ((with_reducible refine gate_dst (N := 6) rfl ?_); (try (refine gate_guard (by rfl) ?_; dsimp only)); refine box_event ?hg (N := 6) ?hd (cs := #[.int .i64 0, .int .i64 0, .string (⟨#[]⟩ : ByteArray)]) (t := 26) ?hr ?_; (case hd => rfl); (case hg => rfl); (case hr => first | (go_simp; done) | (go_simp; rfl)); intro gb140 hg w26 hbox hb; have n0_ := Aside0.mk (Kd.R_below (by (with_reducible repeat (first | apply Kd.R_alloc | apply Kd.R_drewN | apply Kd.R_drew)); exact HO122.out) hb); have n1_ := Aside0.mk (Kd.R_below (by (with_reducible repeat (first | apply Kd.R_alloc | apply Kd.R_drewN | apply Kd.R_drew)); exact HO129.out) hb); have n2_ := Aside0.mk (Kd.R_below (by (with_reducible repeat (first | apply Kd.R_alloc | apply Kd.R_drewN | apply Kd.R_drew)); exact HO136.out) hb); have n3_ := Aside0.mk (blk_below (g := gb126) (o := .cells #[.int .i64 (0 : Int), .int .i64 (0 : Int), .string (⟨#[]⟩ : ByteArray)] 26 (0, 0)) (by (with_reducible repeat (first | refine blk_drewN ?_ _ | refine blk_drew ?_ | refine blk_alloc ?_ _)); exact BK126.out) hb); have n4_ := Aside0.mk (blk_below (g := gb133) (o := .cells #[.int .i64 (0 : Int), .int .i64 (0 : Int), .string (⟨#[]⟩ : ByteArray)] 26 (0, 0)) (by (with_reducible repeat (first | refine blk_drewN ?_ _ | refine blk_drew ?_ | refine blk_alloc ?_ _)); exact BK133.out) hb); have n5_ := Aside0.mk (below_step (by repeat (first | (with_reducible first | exact HB.out | apply below_alloc | apply pw_below_drewN | apply below_drew1 | refine below_set ?_ GE126.out | refine below_set ?_ GE133.out) | exact HB.out)) hb); have n6_ := Aside0.mk (hbox); have n7_ := Aside0.mk ((by rw [hg]; exact (below_size (by repeat (first | (with_reducible first | exact HB.out | apply below_alloc | apply pw_below_drewN | apply below_drew1 | refine below_set ?_ GE126.out | refine below_set ?_ GE133.out) | exact HB.out))) : w.heap.size ≤ gb140)); have n8_ := Aside0.mk ((by rw [hg]; exact (below_size (by repeat (first | (with_reducible first | exact HB.out | apply below_alloc | apply pw_below_drewN | apply below_drew1 | refine below_set ?_ GE126.out | refine below_set ?_ GE133.out) | exact HB.out))) : w.heap.size ≤ gb140)); have n9_ := Aside0.mk ((by rw [hg]; exact Nat.ne_of_lt (blk_lt (g := gb126) (o := .cells #[.int .i64 (0 : Int), .int .i64 (0 : Int), .string (⟨#[]⟩ : ByteArray)] 26 (0, 0)) (by (with_reducible repeat (first | refine blk_drewN ?_ _ | refine blk_drew ?_ | refine blk_alloc ?_ _)); exact BK126.out)) : gb126 ≠ gb140)); have n10_ := Aside0.mk ((by rw [hg]; exact Nat.ne_of_gt (blk_lt (g := gb126) (o := .cells #[.int .i64 (0 : Int), .int .i64 (0 : Int), .string (⟨#[]⟩ : ByteArray)] 26 (0, 0)) (by (with_reducible repeat (first | refine blk_drewN ?_ _ | refine blk_drew ?_ | refine blk_alloc ?_ _)); exact BK126.out)) : gb140 ≠ gb126)); have n11_ := Aside0.mk ((by rw [hg]; exact Nat.ne_of_lt (blk_lt (g := gb133) (o := .cells #[.int .i64 (0 : Int), .int .i64 (0 : Int), .string (⟨#[]⟩ : ByteArray)] 26 (0, 0)) (by (with_reducible repeat (first | refine blk_drewN ?_ _ | refine blk_drew ?_ | refine blk_alloc ?_ _)); exact BK133.out)) : gb133 ≠ gb140)); have n12_ := Aside0.mk ((by rw [hg]; exact Nat.ne_of_gt (blk_lt (g := gb133) (o := .cells #[.int .i64 (0 : Int), .int .i64 (0 : Int), .string (⟨#[]⟩ : ByteArray)] 26 (0, 0)) (by (with_reducible repeat (first | refine blk_drewN ?_ _ | refine blk_drew ?_ | refine blk_alloc ?_ _)); exact BK133.out)) : gb140 ≠ gb133)); clear HO122; clear HO129; clear HO136; clear BK126; clear BK133; clear HB; have HO122 := n0_; have HO129 := n1_; have HO136 := n2_; have BK126 := n3_; have BK133 := n4_; have HB := n5_; have BK140 := n6_; have GW140 := n7_; have GE140 := n8_; have NB126_140 := n9_; have NB140_126 := n10_; have NB133_140 := n11_; have NB140_133 := n12_; clear n0_ n1_ n2_ n3_ n4_ n5_ n6_ n7_ n8_ n9_ n10_ n11_ n12_; clear hb hbox hg; have hnb27 := NB140_126.out; have hnc27 := NB126_140.out; have hnb28 := NB140_133.out; have hnc28 := NB133_140.out; have hcz29_0 : w26.cell? ⟨gb140, 0, none⟩ = some (.int .i64 0) := (blk_cell BK140.out 0).trans rfl; have hcz29_1 : w26.cell? ⟨gb140, 1, none⟩ = some (.int .i64 0) := (blk_cell BK140.out 1).trans rfl; have hcz29_2 : w26.cell? ⟨gb140, 2, none⟩ = some (.string (⟨#[]⟩ : ByteArray)) := (blk_cell BK140.out 2).trans rfl; have hfz29_0 := blk_frozen BK140.out 0; have hfz29_1 := blk_frozen BK140.out 1; have hfz29_2 := blk_frozen BK140.out 2) | ((with_reducible refine gate_callee (f := 9) rfl ?_); refine goesL_ (some 22) rfl rfl Tryd.func9 (by kernel_rfl) rfl #[.string (⟨#[47, 97]⟩ : ByteArray)] rfl (by (try simp only [List.map_toArray, List.map_cons, List.map_nil]); first | done | rfl | (simp only [List.length_drop, List.length_take]; rfl)) ?_; (with_reducible refine (speclex_Scan.calls k (⟨#[47, 97]⟩ : ByteArray) t141 (13 : Int) (0 : Int) (⟨#[]⟩ : ByteArray) _ ?side1 A4.out).mono ?_); (case side1 => exact GW.below HGW.out (by repeat (first | (with_reducible first | exact HB.out | apply below_alloc | apply pw_below_drewN | apply below_drew1 | refine below_set ?_ GE126.out | refine below_set ?_ GE133.out | refine below_set ?_ GE140.out) | exact HB.out))); rintro e w30 ⟨v142, rfl, ho0, hb⟩; refine ⟨_, rfl, ?_⟩; have n0_ := Aside0.mk (Kd.R_elder' (by (with_reducible repeat (first | apply Kd.R_alloc | apply Kd.R_drewN | apply Kd.R_drew)); exact (Kd.R_mono (Kd.R_far (p := ⟨gb140, 2, none⟩) (Kd.R_far (p := ⟨gb140, 1, none⟩) (Kd.R_far (p := ⟨gb140, 0, none⟩) (Kd.R_types HO122.out BK140.out (by decide)) (fun _ hk => hk.2) (.int .i64 (14 : Int))) (fun _ hk => hk.2) (.int .i64 (0 : Int))) (fun _ hk => hk.2) (.string (⟨#[]⟩ : ByteArray))) (fun _ h_ => h_.1))) (Kd.R_base ho0) hb); have n1_ := Aside0.mk (Kd.R_elder' (by (with_reducible repeat (first | apply Kd.R_alloc | apply Kd.R_drewN | apply Kd.R_drew)); exact (Kd.R_mono (Kd.R_far (p := ⟨gb140, 2, none⟩) (Kd.R_far (p := ⟨gb140, 1, none⟩) (Kd.R_far (p := ⟨gb140, 0, none⟩) (Kd.R_types HO129.out BK140.out (by decide)) (fun _ hk => hk.2) (.int .i64 (14 : Int))) (fun _ hk => hk.2) (.int .i64 (0 : Int))) (fun _ hk => hk.2) (.string (⟨#[]⟩ : ByteArray))) (fun _ h_ => h_.1))) (Kd.R_base ho0) hb); have n2_ := Aside0.mk (Kd.R_elder' (by (with_reducible repeat (first | apply Kd.R_alloc | apply Kd.R_drewN | apply Kd.R_drew)); exact (Kd.R_mono (Kd.R_far (p := ⟨gb140, 2, none⟩) (Kd.R_far (p := ⟨gb140, 1, none⟩) (Kd.R_far (p := ⟨gb140, 0, none⟩) (Kd.R_types HO136.out BK140.out (by decide)) (fun _ hk => hk.2) (.int .i64 (14 : Int))) (fun _ hk => hk.2) (.int .i64 (0 : Int))) (fun _ hk => hk.2) (.string (⟨#[]⟩ : ByteArray))) (fun _ h_ => h_.1))) (Kd.R_base ho0) hb); have n3_ := Aside0.mk (Kd.R_lower (Kd.R_new' (Kd.R_new' (Kd.R_new' ho0 (Kd.R_lt (by (with_reducible repeat (first | apply Kd.R_alloc | apply Kd.R_drewN | apply Kd.R_drew)); exact (Kd.R_mono (Kd.R_far (p := ⟨gb140, 2, none⟩) (Kd.R_far (p := ⟨gb140, 1, none⟩) (Kd.R_far (p := ⟨gb140, 0, none⟩) (Kd.R_types HO122.out BK140.out (by decide)) (fun _ hk => hk.2) (.int .i64 (14 : Int))) (fun _ hk => hk.2) (.int .i64 (0 : Int))) (fun _ hk => hk.2) (.string (⟨#[]⟩ : ByteArray))) (fun _ h_ => h_.1))))) (Kd.R_lt (by (with_reducible repeat (first | apply Kd.R_alloc | apply Kd.R_drewN | apply Kd.R_drew)); exact (Kd.R_mono (Kd.R_far (p := ⟨gb140, 2, none⟩) (Kd.R_far (p := ⟨gb140, 1, none⟩) (Kd.R_far (p := ⟨gb140, 0, none⟩) (Kd.R_types HO129.out BK140.out (by decide)) (fun _ hk => hk.2) (.int .i64 (14 : Int))) (fun _ hk => hk.2) (.int .i64 (0 : Int))) (fun _ hk => hk.2) (.string (⟨#[]⟩ : ByteArray))) (fun _ h_ => h_.1))))) (Kd.R_lt (by (with_reducible repeat (first | apply Kd.R_alloc | apply Kd.R_drewN | apply Kd.R_drew)); exact (Kd.R_mono (Kd.R_far (p := ⟨gb140, 2, none⟩) (Kd.R_far (p := ⟨gb140, 1, none⟩) (Kd.R_far (p := ⟨gb140, 0, none⟩) (Kd.R_types HO136.out BK140.out (by decide)) (fun _ hk => hk.2) (.int .i64 (14 : Int))) (fun _ hk => hk.2) (.int .i64 (0 : Int))) (fun _ hk => hk.2) (.string (⟨#[]⟩ : ByteArray))) (fun _ h_ => h_.1))))) (below_size (by repeat (first | (with_reducible first | exact HB.out | apply below_alloc | apply pw_below_drewN | apply below_drew1 | refine below_set ?_ GE126.out | refine below_set ?_ GE133.out | refine below_set ?_ GE140.out) | exact HB.out)))); have n4_ := Aside0.mk (blk_below (g := gb126) (o := .cells #[.int .i64 (0 : Int), .int .i64 (0 : Int), .string (⟨#[]⟩ : ByteArray)] 26 (0, 0)) (by (with_reducible repeat (first | refine blk_drewN ?_ _ | refine blk_drew ?_ | refine blk_alloc ?_ _)); refine blk_far ?_ NB126_140.out _; (with_reducible repeat (first | refine blk_drewN ?_ _ | refine blk_drew ?_ | refine blk_alloc ?_ _)); refine blk_far ?_ NB126_140.out _; (with_reducible repeat (first | refine blk_drewN ?_ _ | refine blk_drew ?_ | refine blk_alloc ?_ _)); refine blk_far ?_ NB126_140.out _; (with_reducible repeat (first | refine blk_drewN ?_ _ | refine blk_drew ?_ | refine blk_alloc ?_ _)); exact BK126.out) hb); have n5_ := Aside0.mk (blk_below (g := gb133) (o := .cells #[.int .i64 (0 : Int), .int .i64 (0 : Int), .string (⟨#[]⟩ : ByteArray)] 26 (0, 0)) (by (with_reducible repeat (first | refine blk_drewN ?_ _ | refine blk_drew ?_ | refine blk_alloc ?_ _)); refine blk_far ?_ NB133_140.out _; (with_reducible repeat (first | refine blk_drewN ?_ _ | refine blk_drew ?_ | refine blk_alloc ?_ _)); refine blk_far ?_ NB133_140.out _; (with_reducible repeat (first | refine blk_drewN ?_ _ | refine blk_drew ?_ | refine blk_alloc ?_ _)); refine blk_far ?_ NB133_140.out _; (with_reducible repeat (first | refine blk_drewN ?_ _ | refine blk_drew ?_ | refine blk_alloc ?_ _)); exact BK133.out) hb); have n6_ := Aside0.mk (blk_below (g := gb140) (o := .cells #[.int .i64 (14 : Int), .int .i64 (0 : Int), .string (⟨#[]⟩ : ByteArray)] 26 (0, 0)) (by (with_reducible repeat (first | refine blk_drewN ?_ _ | refine blk_drew ?_ | refine blk_alloc ?_ _)); refine blk_put (cs := #[.int .i64 (14 : Int), .int .i64 (0 : Int), .string (⟨#[]⟩ : ByteArray)]) ?_ 2 _ rfl; (with_reducible repeat (first | refine blk_drewN ?_ _ | refine blk_drew ?_ | refine blk_alloc ?_ _)); refine blk_put (cs := #[.int .i64 (14 : Int), .int .i64 0, .string (⟨#[]⟩ : ByteArray)]) ?_ 1 _ rfl; (with_reducible repeat (first | refine blk_drewN ?_ _ | refine blk_drew ?_ | refine blk_alloc ?_ _)); refine blk_put (cs := #[.int .i64 0, .int .i64 0, .string (⟨#[]⟩ : ByteArray)]) ?_ 0 _ rfl; (with_reducible repeat (first | refine blk_drewN ?_ _ | refine blk_drew ?_ | refine blk_alloc ?_ _)); exact BK140.out) hb); have n7_ := Aside0.mk (below_step (by repeat (first | (with_reducible first | exact HB.out | apply below_alloc | apply pw_below_drewN | apply below_drew1 | refine below_set ?_ GE126.out | refine below_set ?_ GE133.out | refine below_set ?_ GE140.out) | exact HB.out)) hb); clear HO122; clear HO129; clear HO136; clear BK126; clear BK133; clear BK140; clear HB; have HO122 := n0_; have HO129 := n1_; have HO136 := n2_; have HO143 := n3_; have BK126 := n4_; have BK133 := n5_; have BK140 := n6_; have HB := n7_; clear n0_ n1_ n2_ n3_ n4_ n5_ n6_ n7_; (try clear hb); (try clear hb2); (try clear hk); (try clear hi); (try clear ho0)) | ((with_reducible refine gate_dst (N := 8) rfl ?_); (try (refine gate_guard (by rfl) ?_; dsimp only)); refine box_event ?hg (N := 8) ?hd (cs := #[.int .i64 0, .int .i64 0, .string (⟨#[]⟩ : ByteArray)]) (t := 26) ?hr ?_; (case hd => rfl); (case hg => rfl); (case hr => first | (go_simp; done) | (go_simp; rfl)); intro gb147 hg w31 hbox hb; have n0_ := Aside0.mk (Kd.R_below (by (with_reducible repeat (first | apply Kd.R_alloc | apply Kd.R_drewN | apply Kd.R_drew)); exact HO122.out) hb); have n1_ := Aside0.mk (Kd.R_below (by (with_reducible repeat (first | apply Kd.R_alloc | apply Kd.R_drewN | apply Kd.R_drew)); exact HO129.out) hb); have n2_ := Aside0.mk (Kd.R_below (by (with_reducible repeat (first | apply Kd.R_alloc | apply Kd.R_drewN | apply Kd.R_drew)); exact HO136.out) hb); have n3_ := Aside0.mk (Kd.R_below (by (with_reducible repeat (first | apply Kd.R_alloc | apply Kd.R_drewN | apply Kd.R_drew)); exact HO143.out) hb); have n4_ := Aside0.mk (blk_below (g := gb126) (o := .cells #[.int .i64 (0 : Int), .int .i64 (0 : Int), .string (⟨#[]⟩ : ByteArray)] 26 (0, 0)) (by (with_reducible repeat (first | refine blk_drewN ?_ _ | refine blk_drew ?_ | refine blk_alloc ?_ _)); exact BK126.out) hb); have n5_ := Aside0.mk (blk_below (g := gb133) (o := .cells #[.int .i64 (0 : Int), .int .i64 (0 : Int), .string (⟨#[]⟩ : ByteArray)] 26 (0, 0)) (by (with_reducible repeat (first | refine blk_drewN ?_ _ | refine blk_drew ?_ | refine blk_alloc ?_ _)); exact BK133.out) hb); have n6_ := Aside0.mk (blk_below (g := gb140) (o := .cells #[.int .i64 (14 : Int), .int .i64 (0 : Int), .string (⟨#[]⟩ : ByteArray)] 26 (0, 0)) (by (with_reducible repeat (first | refine blk_drewN ?_ _ | refine blk_drew ?_ | refine blk_alloc ?_ _)); exact BK140.out) hb); have n7_ := Aside0.mk (below_step (by repeat (first | (with_reducible first | exact HB.out | apply below_alloc | apply pw_below_drewN | apply below_drew1 | refine below_set ?_ GE126.out | refine below_set ?_ GE133.out | refine below_set ?_ GE140.out) | exact HB.out)) hb); have n8_ := Aside0.mk (hbox); have n9_ := Aside0.mk ((by rw [hg]; exact (below_size (by repeat (first | (with_reducible first | exact HB.out | apply below_alloc | apply pw_below_drewN | apply below_drew1 | refine below_set ?_ GE126.out | refine below_set ?_ GE133.out | refine below_set ?_ GE140.out) | exact HB.out))) : w.heap.size ≤ gb147)); have n10_ := Aside0.mk ((by rw [hg]; exact (below_size (by repeat (first | (with_reducible first | exact HB.out | apply below_alloc | apply pw_below_drewN | apply below_drew1 | refine below_set ?_ GE126.out | refine below_set ?_ GE133.out | refine below_set ?_ GE140.out) | exact HB.out))) : w.heap.size ≤ gb147)); have n11_ := Aside0.mk ((by rw [hg]; exact Nat.ne_of_lt (blk_lt (g := gb126) (o := .cells #[.int .i64 (0 : Int), .int .i64 (0 : Int), .string (⟨#[]⟩ : ByteArray)] 26 (0, 0)) (by (with_reducible repeat (first | refine blk_drewN ?_ _ | refine blk_drew ?_ | refine blk_alloc ?_ _)); exact BK126.out)) : gb126 ≠ gb147)); have n12_ := Aside0.mk ((by rw [hg]; exact Nat.ne_of_gt (blk_lt (g := gb126) (o := .cells #[.int .i64 (0 : Int), .int .i64 (0 : Int), .string (⟨#[]⟩ : ByteArray)] 26 (0, 0)) (by (with_reducible repeat (first | refine blk_drewN ?_ _ | refine blk_drew ?_ | refine blk_alloc ?_ _)); exact BK126.out)) : gb147 ≠ gb126)); have n13_ := Aside0.mk ((by rw [hg]; exact Nat.ne_of_lt (blk_lt (g := gb133) (o := .cells #[.int .i64 (0 : Int), .int .i64 (0 : Int), .string (⟨#[]⟩ : ByteArray)] 26 (0, 0)) (by (with_reducible repeat (first | refine blk_drewN ?_ _ | refine blk_drew ?_ | refine blk_alloc ?_ _)); exact BK133.out)) : gb133 ≠ gb147)); have n14_ := Aside0.mk ((by rw [hg]; exact Nat.ne_of_gt (blk_lt (g := gb133) (o := .cells #[.int .i64 (0 : Int), .int .i64 (0 : Int), .string (⟨#[]⟩ : ByteArray)] 26 (0, 0)) (by (with_reducible repeat (first | refine blk_drewN ?_ _ | refine blk_drew ?_ | refine blk_alloc ?_ _)); exact BK133.out)) : gb147 ≠ gb133)); have n15_ := Aside0.mk ((by rw [hg]; exact Nat.ne_of_lt (blk_lt (g := gb140) (o := .cells #[.int .i64 (14 : Int), .int .i64 (0 : Int), .string (⟨#[]⟩ : ByteArray)] 26 (0, 0)) (by (with_reducible repeat (first | refine blk_drewN ?_ _ | refine blk_drew ?_ | refine blk_alloc ?_ _)); exact BK140.out)) : gb140 ≠ gb147)); have n16_ := Aside0.mk ((by rw [hg]; exact Nat.ne_of_gt (blk_lt (g := gb140) (o := .cells #[.int .i64 (14 : Int), .int .i64 (0 : Int), .string (⟨#[]⟩ : ByteArray)] 26 (0, 0)) (by (with_reducible repeat (first | refine blk_drewN ?_ _ | refine blk_drew ?_ | refine blk_alloc ?_ _)); exact BK140.out)) : gb147 ≠ gb140)); clear HO122; clear HO129; clear HO136; clear HO143; clear BK126; clear BK133; clear BK140; clear HB; have HO122 := n0_; have HO129 := n1_; have HO136 := n2_; have HO143 := n3_; have BK126 := n4_; have BK133 := n5_; have BK140 := n6_; have HB := n7_; have BK147 := n8_; have GW147 := n9_; have GE147 := n10_; have NB126_147 := n11_; have NB147_126 := n12_; have NB133_147 := n13_; have NB147_133 := n14_; have NB140_147 := n15_; have NB147_140 := n16_; clear n0_ n1_ n2_ n3_ n4_ n5_ n6_ n7_ n8_ n9_ n10_ n11_ n12_ n13_ n14_ n15_ n16_; clear hb hbox hg; have hnb32 := NB147_126.out; have hnc32 := NB126_147.out; have hnb33 := NB147_133.out; have hnc33 := NB133_147.out; have hnb34 := NB147_140.out; have hnc34 := NB140_147.out; have hcz35_0 : w31.cell? ⟨gb147, 0, none⟩ = some (.int .i64 0) := (blk_cell BK147.out 0).trans rfl; have hcz35_1 : w31.cell? ⟨gb147, 1, none⟩ = some (.int .i64 0) := (blk_cell BK147.out 1).trans rfl; have hcz35_2 : w31.cell? ⟨gb147, 2, none⟩ = some (.string (⟨#[]⟩ : ByteArray)) := (blk_cell BK147.out 2).trans rfl; have hfz35_0 := blk_frozen BK147.out 0; have hfz35_1 := blk_frozen BK147.out 1; have hfz35_2 := blk_frozen BK147.out 2; have hcz36_0 : w31.cell? ⟨gb126, 0, none⟩ = some (.int .i64 (0 : Int)) := (blk_cell BK126.out 0).trans rfl; have hcz36_1 : w31.cell? ⟨gb126, 1, none⟩ = some (.int .i64 (0 : Int)) := (blk_cell BK126.out 1).trans rfl; have hcz36_2 : w31.cell? ⟨gb126, 2, none⟩ = some (.string (⟨#[]⟩ : ByteArray)) := (blk_cell BK126.out 2).trans rfl; have hfz36_0 := blk_frozen BK126.out 0; have hfz36_1 := blk_frozen BK126.out 1; have hfz36_2 := blk_frozen BK126.out 2; have hcz37_0 : w31.cell? ⟨gb133, 0, none⟩ = some (.int .i64 (0 : Int)) := (blk_cell BK133.out 0).trans rfl; have hcz37_1 : w31.cell? ⟨gb133, 1, none⟩ = some (.int .i64 (0 : Int)) := (blk_cell BK133.out 1).trans rfl; have hcz37_2 : w31.cell? ⟨gb133, 2, none⟩ = some (.string (⟨#[]⟩ : ByteArray)) := (blk_cell BK133.out 2).trans rfl; have hfz37_0 := blk_frozen BK133.out 0; have hfz37_1 := blk_frozen BK133.out 1; have hfz37_2 := blk_frozen BK133.out 2; have hcz38_0 : w31.cell? ⟨gb140, 0, none⟩ = some (.int .i64 (14 : Int)) := (blk_cell BK140.out 0).trans rfl; have hcz38_1 : w31.cell? ⟨gb140, 1, none⟩ = some (.int .i64 (0 : Int)) := (blk_cell BK140.out 1).trans rfl; have hcz38_2 : w31.cell? ⟨gb140, 2, none⟩ = some (.string (⟨#[]⟩ : ByteArray)) := (blk_cell BK140.out 2).trans rfl; have hfz38_0 := blk_frozen BK140.out 0; have hfz38_1 := blk_frozen BK140.out 1; have hfz38_2 := blk_frozen BK140.out 2; obtain ⟨Ao39, co39, eo39⟩ := Kd.R_slice HO122.out; subst eo39; have p148 : 0 ≤ (3 : Int) := (by omega); have q148 : 3 < (t120.length : Int) := of_decide_eq_true (by first | (with_reducible assumption) | assumption); obtain ⟨ad148, e148, hx148_0, hx148_1, hx148_2⟩ := at_T32 (Kd.R_reads' HO122.out).2.2 3 p148 q148; cases e148; (try simp only [show (3 : Int).toNat = 3 from rfl, Nat.reduceMul, Nat.reduceEqDiff, Go.Addr.add, ↓reduceIte] at hx148_0); (try simp only [show (3 : Int).toNat = 3 from rfl, Nat.reduceMul, Nat.reduceEqDiff, Go.Addr.add, ↓reduceIte] at hx148_1); (try simp only [show (3 : Int).toNat = 3 from rfl, Nat.reduceMul, Nat.reduceEqDiff, Go.Addr.add, ↓reduceIte] at hx148_2); have qi148 : (3 < t120.length) = True := eq_true (by omega); (try rw [show ((3 : Int)).toNat = 3 from rfl] at hx148_0); (try rw [show 3 * 3 = 9 from rfl] at hx148_0); (try rw [show ((3 : Int)).toNat = 3 from rfl] at hx148_1); (try rw [show 3 * 3 = 9 from rfl] at hx148_1); (try rw [show ((3 : Int)).toNat = 3 from rfl] at hx148_2); (try rw [show 3 * 3 = 9 from rfl] at hx148_2); have hn148_0 : ad148.block ≠ gb147 := Kd.own_blk (Kd.R_ne HO122.out BK147.out (by decide)); have hn148_1 : ad148.block ≠ gb147 := Kd.own_blk (Kd.R_ne HO122.out BK147.out (by decide)); have hn148_2 : ad148.block ≠ gb147 := Kd.own_blk (Kd.R_ne HO122.out BK147.out (by decide)); replace hx148_0 := (cell_far (p := ⟨gb147, 0, none⟩) (by first | (rw [add_block]; exact hn148_0) | (show (Addr.add _ _).block ≠ _; rw [add_block]; exact hn148_0) | exact hn148_0) (.int .i64 (13 : Int))).trans hx148_0; replace hx148_1 := (cell_far (p := ⟨gb147, 0, none⟩) (by first | (rw [add_block]; exact hn148_0) | (show (Addr.add _ _).block ≠ _; rw [add_block]; exact hn148_0) | exact hn148_0) (.int .i64 (13 : Int))).trans hx148_1; replace hx148_2 := (cell_far (p := ⟨gb147, 0, none⟩) (by first | (rw [add_block]; exact hn148_0) | (show (Addr.add _ _).block ≠ _; rw [add_block]; exact hn148_0) | exact hn148_0) (.int .i64 (13 : Int))).trans hx148_2; replace hx148_0 := (cell_far (p := ⟨gb147, 1, none⟩) (by first | (rw [add_block]; exact hn148_1) | (show (Addr.add _ _).block ≠ _; rw [add_block]; exact hn148_1) | exact hn148_1) (.int .i64 (0 : Int))).trans hx148_0; replace hx148_1 := (cell_far (p := ⟨gb147, 1, none⟩) (by first | (rw [add_block]; exact hn148_1) | (show (Addr.add _ _).block ≠ _; rw [add_block]; exact hn148_1) | exact hn148_1) (.int .i64 (0 : Int))).trans hx148_1; replace hx148_2 := (cell_far (p := ⟨gb147, 1, none⟩) (by first | (rw [add_block]; exact hn148_1) | (show (Addr.add _ _).block ≠ _; rw [add_block]; exact hn148_1) | exact hn148_1) (.int .i64 (0 : Int))).trans hx148_2; replace hx148_0 := (cell_far (p := ⟨gb147, 2, none⟩) (by first | (rw [add_block]; exact hn148_2) | (show (Addr.add _ _).block ≠ _; rw [add_block]; exact hn148_2) | exact hn148_2) (.string (⟨#[]⟩ : ByteArray))).trans hx148_0; replace hx148_1 := (cell_far (p := ⟨gb147, 2, none⟩) (by first | (rw [add_block]; exact hn148_2) | (show (Addr.add _ _).block ≠ _; rw [add_block]; exact hn148_2) | exact hn148_2) (.string (⟨#[]⟩ : ByteArray))).trans hx148_1; replace hx148_2 := (cell_far (p := ⟨gb147, 2, none⟩) (by first | (rw [add_block]; exact hn148_2) | (show (Addr.add _ _).block ≠ _; rw [add_block]; exact hn148_2) | exact hn148_2) (.string (⟨#[]⟩ : ByteArray))).trans hx148_2; clear hn148_0; clear hn148_1; clear hn148_2; replace p148 := eq_true p148; replace q148 := eq_true q148; have p149 : 0 ≤ (5 : Int) := (by omega); have q149 : 5 < (t120.length : Int) := of_decide_eq_true (by first | (with_reducible assumption) | assumption); obtain ⟨ad149, e149, hx149_0, hx149_1, hx149_2⟩ := at_T32 (Kd.R_reads' HO122.out).2.2 5 p149 q149; obtain rfl : ad148 = ad149 := (by injection e149); (try simp only [show (5 : Int).toNat = 5 from rfl, Nat.reduceMul, Nat.reduceEqDiff, Go.Addr.add, ↓reduceIte] at hx149_0); (try simp only [show (5 : Int).toNat = 5 from rfl, Nat.reduceMul, Nat.reduceEqDiff, Go.Addr.add, ↓reduceIte] at hx149_1); (try simp only [show (5 : Int).toNat = 5 from rfl, Nat.reduceMul, Nat.reduceEqDiff, Go.Addr.add, ↓reduceIte] at hx149_2); have qi149 : (5 < t120.length) = True := eq_true (by omega); (try rw [show ((5 : Int)).toNat = 5 from rfl] at hx149_0); (try rw [show 5 * 3 = 15 from rfl] at hx149_0); (try rw [show ((5 : Int)).toNat = 5 from rfl] at hx149_1); (try rw [show 5 * 3 = 15 from rfl] at hx149_1); (try rw [show ((5 : Int)).toNat = 5 from rfl] at hx149_2); (try rw [show 5 * 3 = 15 from rfl] at hx149_2); have hn149_0 : ad148.block ≠ gb147 := Kd.own_blk (Kd.R_ne HO122.out BK147.out (by decide)); have hn149_1 : ad148.block ≠ gb147 := Kd.own_blk (Kd.R_ne HO122.out BK147.out (by decide)); have hn149_2 : ad148.block ≠ gb147 := Kd.own_blk (Kd.R_ne HO122.out BK147.out (by decide)); replace hx149_0 := (cell_far (p := ⟨gb147, 0, none⟩) (by first | (rw [add_block]; exact hn149_0) | (show (Addr.add _ _).block ≠ _; rw [add_block]; exact hn149_0) | exact hn149_0) (.int .i64 (13 : Int))).trans hx149_0; replace hx149_1 := (cell_far (p := ⟨gb147, 0, none⟩) (by first | (rw [add_block]; exact hn149_0) | (show (Addr.add _ _).block ≠ _; rw [add_block]; exact hn149_0) | exact hn149_0) (.int .i64 (13 : Int))).trans hx149_1; replace hx149_2 := (cell_far (p := ⟨gb147, 0, none⟩) (by first | (rw [add_block]; exact hn149_0) | (show (Addr.add _ _).block ≠ _; rw [add_block]; exact hn149_0) | exact hn149_0) (.int .i64 (13 : Int))).trans hx149_2; replace hx149_0 := (cell_far (p := ⟨gb147, 1, none⟩) (by first | (rw [add_block]; exact hn149_1) | (show (Addr.add _ _).block ≠ _; rw [add_block]; exact hn149_1) | exact hn149_1) (.int .i64 (0 : Int))).trans hx149_0; replace hx149_1 := (cell_far (p := ⟨gb147, 1, none⟩) (by first | (rw [add_block]; exact hn149_1) | (show (Addr.add _ _).block ≠ _; rw [add_block]; exact hn149_1) | exact hn149_1) (.int .i64 (0 : Int))).trans hx149_1; replace hx149_2 := (cell_far (p := ⟨gb147, 1, none⟩) (by first | (rw [add_block]; exact hn149_1) | (show (Addr.add _ _).block ≠ _; rw [add_block]; exact hn149_1) | exact hn149_1) (.int .i64 (0 : Int))).trans hx149_2; replace hx149_0 := (cell_far (p := ⟨gb147, 2, none⟩) (by first | (rw [add_block]; exact hn149_2) | (show (Addr.add _ _).block ≠ _; rw [add_block]; exact hn149_2) | exact hn149_2) (.string (⟨#[]⟩ : ByteArray))).trans hx149_0; replace hx149_1 := (cell_far (p := ⟨gb147, 2, none⟩) (by first | (rw [add_block]; exact hn149_2) | (show (Addr.add _ _).block ≠ _; rw [add_block]; exact hn149_2) | exact hn149_2) (.string (⟨#[]⟩ : ByteArray))).trans hx149_1; replace hx149_2 := (cell_far (p := ⟨gb147, 2, none⟩) (by first | (rw [add_block]; exact hn149_2) | (show (Addr.add _ _).block ≠ _; rw [add_block]; exact hn149_2) | exact hn149_2) (.string (⟨#[]⟩ : ByteArray))).trans hx149_2; clear hn149_0; clear hn149_1; clear hn149_2; replace p149 := eq_true p149; replace q149 := eq_true q149; obtain ⟨Ao40, co40, eo40⟩ := Kd.R_slice HO129.out; subst eo40; have p150 : 0 ≤ (0 : Int) := (by omega); have q150 : 0 < (t127.length : Int) := of_decide_eq_true (by first | (with_reducible assumption) | assumption); obtain ⟨ad150, e150, hx150_0, hx150_1, hx150_2⟩ := at_T32 (Kd.R_reads' HO129.out).2.2 0 p150 q150; cases e150; have qi150 : (0 < t127.length) = True := eq_true (by omega); (try rw [show ((0 : Int)).toNat = 0 from rfl] at hx150_0); (try rw [show 0 * 3 = 0 from rfl] at hx150_0); (try rw [Addr.add_zero'] at hx150_0); (try rw [show ((0 : Int)).toNat = 0 from rfl] at hx150_1); (try rw [show 0 * 3 = 0 from rfl] at hx150_1); (try rw [Addr.add_zero'] at hx150_1); (try rw [show ((0 : Int)).toNat = 0 from rfl] at hx150_2); (try rw [show 0 * 3 = 0 from rfl] at hx150_2); (try rw [Addr.add_zero'] at hx150_2); have hn150_0 : ad150.block ≠ gb147 := Kd.own_blk (Kd.R_ne HO129.out BK147.out (by decide)); have hn150_1 : ad150.block ≠ gb147 := Kd.own_blk (Kd.R_ne HO129.out BK147.out (by decide)); have hn150_2 : ad150.block ≠ gb147 := Kd.own_blk (Kd.R_ne HO129.out BK147.out (by decide)); replace hx150_0 := (cell_far (p := ⟨gb147, 0, none⟩) (by first | (rw [add_block]; exact hn150_0) | (show (Addr.add _ _).block ≠ _; rw [add_block]; exact hn150_0) | exact hn150_0) (.int .i64 (13 : Int))).trans hx150_0; replace hx150_1 := (cell_far (p := ⟨gb147, 0, none⟩) (by first | (rw [add_block]; exact hn150_0) | (show (Addr.add _ _).block ≠ _; rw [add_block]; exact hn150_0) | exact hn150_0) (.int .i64 (13 : Int))).trans hx150_1; replace hx150_2 := (cell_far (p := ⟨gb147, 0, none⟩) (by first | (rw [add_block]; exact hn150_0) | (show (Addr.add _ _).block ≠ _; rw [add_block]; exact hn150_0) | exact hn150_0) (.int .i64 (13 : Int))).trans hx150_2; replace hx150_0 := (cell_far (p := ⟨gb147, 1, none⟩) (by first | (rw [add_block]; exact hn150_1) | (show (Addr.add _ _).block ≠ _; rw [add_block]; exact hn150_1) | exact hn150_1) (.int .i64 (0 : Int))).trans hx150_0; replace hx150_1 := (cell_far (p := ⟨gb147, 1, none⟩) (by first | (rw [add_block]; exact hn150_1) | (show (Addr.add _ _).block ≠ _; rw [add_block]; exact hn150_1) | exact hn150_1) (.int .i64 (0 : Int))).trans hx150_1; replace hx150_2 := (cell_far (p := ⟨gb147, 1, none⟩) (by first | (rw [add_block]; exact hn150_1) | (show (Addr.add _ _).block ≠ _; rw [add_block]; exact hn150_1) | exact hn150_1) (.int .i64 (0 : Int))).trans hx150_2; replace hx150_0 := (cell_far (p := ⟨gb147, 2, none⟩) (by first | (rw [add_block]; exact hn150_2) | (show (Addr.add _ _).block ≠ _; rw [add_block]; exact hn150_2) | exact hn150_2) (.string (⟨#[]⟩ : ByteArray))).trans hx150_0; replace hx150_1 := (cell_far (p := ⟨gb147, 2, none⟩) (by first | (rw [add_block]; exact hn150_2) | (show (Addr.add _ _).block ≠ _; rw [add_block]; exact hn150_2) | exact hn150_2) (.string (⟨#[]⟩ : ByteArray))).trans hx150_1; replace hx150_2 := (cell_far (p := ⟨gb147, 2, none⟩) (by first | (rw [add_block]; exact hn150_2) | (show (Addr.add _ _).block ≠ _; rw [add_block]; exact hn150_2) | exact hn150_2) (.string (⟨#[]⟩ : ByteArray))).trans hx150_2; clear hn150_0; clear hn150_1; clear hn150_2; replace p150 := eq_true p150; replace q150 := eq_true q150) | (go_at_call 12; (with_reducible refine (speclex_Show.calls _ _ t127 t151 _ ?side3 ?side1 ?side2 A17.out).mono ?_); (case side1 => refine (Kd.R_reads' (e := 32) (base := w.heap.size) (ok := fun k_ => (((True ∧ some k_ ≠ (.slice (some ad148) t120.length co39 : Value).ownBlock) ∧ some k_ ≠ (v135 : Value).ownBlock) ∧ some k_ ≠ (v142 : Value).ownBlock)) (n := t127.length) (c := co40) ?_).2.2; exact (by (with_reducible repeat (first | apply Kd.R_alloc | apply Kd.R_drewN | apply Kd.R_drew)); exact (Kd.R_mono (Kd.R_far (p := ⟨gb147, 2, none⟩) (Kd.R_far (p := ⟨gb147, 1, none⟩) (Kd.R_far (p := ⟨gb147, 0, none⟩) (Kd.R_types HO129.out BK147.out (by decide)) (fun _ hk => hk.2) (.int .i64 (13 : Int))) (fun _ hk => hk.2) (.int .i64 (0 : Int))) (fun _ hk => hk.2) (.string (⟨#[]⟩ : ByteArray))) (fun _ h_ => h_.1)))); (case side2 => exact (Kd.R_reads' HO129.out).2.1); (case side3 => exact GW.below HGW.out (by repeat (first | (with_reducible first | exact HB.out | apply below_alloc | apply pw_below_drewN | apply below_drew1 | refine below_set ?_ GE126.out | refine below_set ?_ GE133.out | refine below_set ?_ GE140.out | refine below_set ?_ GE147.out) | exact HB.out))); rintro e w41 ⟨rfl, hb⟩; have n0_ := Aside0.mk (Kd.R_below (by (with_reducible repeat (first | apply Kd.R_alloc | apply Kd.R_drewN | apply Kd.R_drew)); exact (Kd.R_mono (Kd.R_far (p := ⟨gb147, 2, none⟩) (Kd.R_far (p := ⟨gb147, 1, none⟩) (Kd.R_far (p := ⟨gb147, 0, none⟩) (Kd.R_types HO122.out BK147.out (by decide)) (fun _ hk => hk.2) (.int .i64 (13 : Int))) (fun _ hk => hk.2) (.int .i64 (0 : Int))) (fun _ hk => hk.2) (.string (⟨#[]⟩ : ByteArray))) (fun _ h_ => h_.1))) hb); have n1_ := Aside0.mk (Kd.R_below (by (with_reducible repeat (first | apply Kd.R_alloc | apply Kd.R_drewN | apply Kd.R_drew)); exact (Kd.R_mono (Kd.R_far (p := ⟨gb147, 2, none⟩) (Kd.R_far (p := ⟨gb147, 1, none⟩) (Kd.R_far (p := ⟨gb147, 0, none⟩) (Kd.R_types HO129.out BK147.out (by decide)) (fun _ hk => hk.2) (.int .i64 (13 : Int))) (fun _ hk => hk.2) (.int .i64 (0 : Int))) (fun _ hk => hk.2) (.string (⟨#[]⟩ : ByteArray))) (fun _ h_ => h_.1))) hb); have n2_ := Aside0.mk (Kd.R_below (by (with_reducible repeat (first | apply Kd.R_alloc | apply Kd.R_drewN | apply Kd.R_drew)); exact (Kd.R_mono (Kd.R_far (p := ⟨gb147, 2, none⟩) (Kd.R_far (p := ⟨gb147, 1, none⟩) (Kd.R_far (p := ⟨gb147, 0, none⟩) (Kd.R_types HO136.out BK147.out (by decide)) (fun _ hk => hk.2) (.int .i64 (13 : Int))) (fun _ hk => hk.2) (.int .i64 (0 : Int))) (fun _ hk => hk.2) (.string (⟨#[]⟩ : ByteArray))) (fun _ h_ => h_.1))) hb); have n3_ := Aside0.mk (Kd.R_below (by (with_reducible repeat (first | apply Kd.R_alloc | apply Kd.R_drewN | apply Kd.R_drew)); exact (Kd.R_mono (Kd.R_far (p := ⟨gb147, 2, none⟩) (Kd.R_far (p := ⟨gb147, 1, none⟩) (Kd.R_far (p := ⟨gb147, 0, none⟩) (Kd.R_types HO143.out BK147.out (by decide)) (fun _ hk => hk.2) (.int .i64 (13 : Int))) (fun _ hk => hk.2) (.int .i64 (0 : Int))) (fun _ hk => hk.2) (.string (⟨#[]⟩ : ByteArray))) (fun _ h_ => h_.1))) hb); have n4_ := Aside0.mk (blk_below (g := gb126) (o := .cells #[.int .i64 (0 : Int), .int .i64 (0 : Int), .string (⟨#[]⟩ : ByteArray)] 26 (0, 0)) (by (with_reducible repeat (first | refine blk_drewN ?_ _ | refine blk_drew ?_ | refine blk_alloc ?_ _)); refine blk_far ?_ NB126_147.out _; (with_reducible repeat (first | refine blk_drewN ?_ _ | refine blk_drew ?_ | refine blk_alloc ?_ _)); refine blk_far ?_ NB126_147.out _; (with_reducible repeat (first | refine blk_drewN ?_ _ | refine blk_drew ?_ | refine blk_alloc ?_ _)); refine blk_far ?_ NB126_147.out _; (with_reducible repeat (first | refine blk_drewN ?_ _ | refine blk_drew ?_ | refine blk_alloc ?_ _)); exact BK126.out) hb); have n5_ := Aside0.mk (blk_below (g := gb133) (o := .cells #[.int .i64 (0 : Int), .int .i64 (0 : Int), .string (⟨#[]⟩ : ByteArray)] 26 (0, 0)) (by (with_reducible repeat (first | refine blk_drewN ?_ _ | refine blk_drew ?_ | refine blk_alloc ?_ _)); refine blk_far ?_ NB133_147.out _; (with_reducible repeat (first | refine blk_drewN ?_ _ | refine blk_drew ?_ | refine blk_alloc ?_ _)); refine blk_far ?_ NB133_147.out _; (with_reducible repeat (first | refine blk_drewN ?_ _ | refine blk_drew ?_ | refine blk_alloc ?_ _)); refine blk_far ?_ NB133_147.out _; (with_reducible repeat (first | refine blk_drewN ?_ _ | refine blk_drew ?_ | refine blk_alloc ?_ _)); exact BK133.out) hb); have n6_ := Aside0.mk (blk_below (g := gb140) (o := .cells #[.int .i64 (14 : Int), .int .i64 (0 : Int), .string (⟨#[]⟩ : ByteArray)] 26 (0, 0)) (by (with_reducible repeat (first | refine blk_drewN ?_ _ | refine blk_drew ?_ | refine blk_alloc ?_ _)); refine blk_far ?_ NB140_147.out _; (with_reducible repeat (first | refine blk_drewN ?_ _ | refine blk_drew ?_ | refine blk_alloc ?_ _)); refine blk_far ?_ NB140_147.out _; (with_reducible repeat (first | refine blk_drewN ?_ _ | refine blk_drew ?_ | refine blk_alloc ?_ _)); refine blk_far ?_ NB140_147.out _; (with_reducible repeat (first | refine blk_drewN ?_ _ | refine blk_drew ?_ | refine blk_alloc ?_ _)); exact BK140.out) hb); have n7_ := Aside0.mk (blk_below (g := gb147) (o := .cells #[.int .i64 (13 : Int), .int .i64 (0 : Int), .string (⟨#[]⟩ : ByteArray)] 26 (0, 0)) (by (with_reducible repeat (first | refine blk_drewN ?_ _ | refine blk_drew ?_ | refine blk_alloc ?_ _)); refine blk_put (cs := #[.int .i64 (13 : Int), .int .i64 (0 : Int), .string (⟨#[]⟩ : ByteArray)]) ?_ 2 _ rfl; (with_reducible repeat (first | refine blk_drewN ?_ _ | refine blk_drew ?_ | refine blk_alloc ?_ _)); refine blk_put (cs := #[.int .i64 (13 : Int), .int .i64 0, .string (⟨#[]⟩ : ByteArray)]) ?_ 1 _ rfl; (with_reducible repeat (first | refine blk_drewN ?_ _ | refine blk_drew ?_ | refine blk_alloc ?_ _)); refine blk_put (cs := #[.int .i64 0, .int .i64 0, .string (⟨#[]⟩ : ByteArray)]) ?_ 0 _ rfl; (with_reducible repeat (first | refine blk_drewN ?_ _ | refine blk_drew ?_ | refine blk_alloc ?_ _)); exact BK147.out) hb); have n8_ := Aside0.mk (below_step (by repeat (first | (with_reducible first | exact HB.out | apply below_alloc | apply pw_below_drewN | apply below_drew1 | refine below_set ?_ GE126.out | refine below_set ?_ GE133.out | refine below_set ?_ GE140.out | refine below_set ?_ GE147.out) | exact HB.out)) hb); clear HO122; clear HO129; clear HO136; clear HO143; clear BK126; clear BK133; clear BK140; clear BK147; clear HB; have HO122 := n0_; have HO129 := n1_; have HO136 := n2_; have HO143 := n3_; have BK126 := n4_; have BK133 := n5_; have BK140 := n6_; have BK147 := n7_; have HB := n8_; clear n0_ n1_ n2_ n3_ n4_ n5_ n6_ n7_ n8_; (try clear hb); (try clear hb2); (try clear hk); (try clear hi)))
                          go_ret
                          exact ⟨by first | rfl | (simp [errW_none, errW_some] <;> rfl) | (simp [*, errW_none, errW_some] <;> rfl), by repeat (first | (with_reducible first | exact HB.out | apply below_alloc | apply pw_below_drewN | apply below_drew1 | refine below_set ?_ GE126.out | refine below_set ?_ GE133.out | refine below_set ?_ GE140.out | refine below_set ?_ GE147.out) | exact HB.out)⟩
                        · rw [if_neg c16] at H
                          exact absurd H (by simp)
                      · rw [if_neg c15] at H
                        exact absurd H (by simp)
                    · rw [if_neg c14] at H
                      exact absurd H (by simp)
                  · rw [if_neg c13] at H
                    exact absurd H (by simp)
                · rw [if_neg c12] at H
                  exact absurd H (by simp)
              · rw [if_neg c11] at H
                exact absurd H (by simp)
            · rw [if_neg c10] at H
              exact absurd H (by simp)
          · rw [if_neg c9] at H
            exact absurd H (by simp)
        · rw [if_neg c8] at H
          exact absurd H (by simp)
      · rw [if_neg c7] at H
        exact absurd H (by simp)
    · rw [if_neg c6] at H
      exact absurd H (by simp)
  · rw [if_neg c5] at H
    exact absurd H (by simp)
end Go.Proofs.YthijdjpipjbkbaaDoor.H
end
section
namespace Go.Proofs.YthijdjpipjbkbaaDoor.H
open Go.RowKit Go.Proofs.YthijdjpipjbkbaaDoorW.PrintWords Go.Proofs.YthijdjpipjbkbaaDoorW.PrintLast Go.Proofs.YthijdjpipjbkbaaDoorW.PrintMore
set_option linter.unusedVariables false
set_option linter.unusedSimpArgs false
set_option maxRecDepth 100000 in
theorem knows_true : arboristlaw11_knows.f 60 = some true := by
  simp only [arboristlaw11_knows.f, ByteArray.toList_eq]
  kernel_rfl
theorem knows_ends : Ends (fun k => (arboristlaw11_knows.f k).bind fun t => some t) true := Ends.bind (g := fun _ t => some t) (Ends.of_mono (fun k => arboristlaw11_knows.mono k) ⟨60, knows_true⟩) (Ends.const _)
end Go.Proofs.YthijdjpipjbkbaaDoor.H
end
section
namespace Go.Proofs.YthijdjpipjbkbaaDoor.H
open Go.RowKit Go.Proofs.YthijdjpipjbkbaaDoorW.PrintWords Go.Proofs.YthijdjpipjbkbaaDoorW.PrintLast Go.Proofs.YthijdjpipjbkbaaDoorW.PrintMore
attribute [local go_sem] max2_int min2_int max_two min_two max_three min_three max_four min_four
set_option linter.unusedVariables false
set_option linter.unusedSimpArgs false
def arboristlaw11_SpeclexShows.l0 : Nat → List (S32) → Int → Option (Bool)
 | 0, _, _ => none
 | k + 1, x0, x3 => if x3 < (x0.length : Int) then (if 0 ≤ x3 then (if (((rd_T32 x0 x3).f1).size : Int) > 300 then ((arboristlaw11_knows.f k).bind fun t233 => (some t233)) else (arboristlaw11_SpeclexShows.l0 k x0 (wrap64 (x3 + 1)))) else (none)) else ((speclex_Show.f x0).bind fun t234 => ((arboristref11_Show.f k x0).bind fun t235 => (if t234.toList = t235.toList then ((arboristlaw11_knows.f k).bind fun t236 => (some t236)) else (some false))))
def arboristlaw11_SpeclexShows.f (k : Nat) (l0 : List (S32)) : Option (Bool) := if (l0.length : Int) > 100 then ((arboristlaw11_knows.f k).bind fun t231 => (some t231)) else (arboristlaw11_SpeclexShows.l0 k l0 0)
set_option maxHeartbeats 8000000 in
set_option maxRecDepth 100000 in
theorem arboristlaw11_SpeclexShows.calls (k : Nat) (A0 : Option Addr) (c0 : Nat) (l0 : List (S32)) (r : Bool) (w : World) (hgw : GW w) (hr0 : Kd.C k32 w A0 l0.length l0) (hc0 : l0.length ≤ c0) (h : arboristlaw11_SpeclexShows.f k l0 = some r) :
  Calls Tryd.prog 4 #[.slice A0 l0.length c0] w fun e w' => e = .returned (.bool r) ∧ Below w.heap.size w w' := by
 (have HGW := qM hgw); clear hgw; (have HR0 := qM hr0); (have HC0 := qM hc0); clear hr0 hc0; (have HB := qM (Below.refl w.heap.size w)); (have H : (if (l0.length : Int) > 100 then ((arboristlaw11_knows.f k).bind fun t231 => (some t231)) else (arboristlaw11_SpeclexShows.l0 k l0 0)) = some r := h); clear h; (by_cases c2 : (l0.length : Int) > 100)
 ·rw [if_pos c2] at H
  (have c2b0 : decide (100 < (l0.length : Int)) = true := decide_eq_true c2); (have c2b1 : decide (100 < l0.length) = true := decide_eq_true (by omega)); clear c2; (replace H := Option.bind_eq_some_iff.mp H); (obtain ⟨t231, A30, H⟩ := H); (replace H : (some t231) = some r := H); (have A3 := qM A30); clear A30; (obtain rfl := Option.some.inj H); (go_enter Tryd.func4, Tryd.ntmps4)
  go_wp2_with (first | ((with_reducible refine gate_callee (f := 8) rfl ?_); refine goesL_ (some 7) rfl rfl Tryd.func8 (by kernel_rfl) rfl #[] rfl (by (try simp only [List.map_toArray, List.map_cons, List.map_nil]); first | done | rfl | (simp only [List.length_drop, List.length_take]; rfl)) ?_; (with_reducible refine (arboristlaw11_knows.calls k  t231 _ ?side1 A3.out).mono ?_); (case side1 => exact GW.below HGW.out qF); rintro e w4 ⟨rfl, hb⟩; refine ⟨_, rfl, ?_⟩; have n0_ := qM (qP qF hb); clear HB; have HB := n0_; clear n0_; (try clear hb); (try clear hb2); (try clear hk); (try clear hi)))
  (go_ret); (exact ⟨qE, qF⟩)
 ·rw [if_neg c2] at H
  (have c2b0 : decide (100 < (l0.length : Int)) = false := decide_eq_false c2); (have c2b1 : decide (100 < l0.length) = false := decide_eq_false (by omega)); clear c2; (have H' := qM H); clear H; (go_enter Tryd.func4, Tryd.ntmps4); go_wp2; (go_loopg [3] k (fun kq v3 w' => ∃ (x3_1 : Int), v3 = .int .i64 x3_1 ∧ Aside0 (arboristlaw11_SpeclexShows.l0 kq l0 x3_1 = some r) ∧ Aside0 (kq ≤ k) ∧ Aside0 (Below w.heap.size w w')))
  case atStart => exact ⟨(0), qV, H', ⟨Nat.le_refl _⟩, ⟨qF⟩⟩
  case round =>
   (clear H'); (try clear c2); (try clear c2b0); (try clear c2b1); (try clear p2); (try clear c4); (obtain ⟨x3_1, rfl, HA, HK1, HB⟩ := hrel)
   cases gk with
   | zero => exact absurd HA.out (by simp [arboristlaw11_SpeclexShows.l0])
   | succ k1 =>
    (have H := HA.out); clear HA; (simp only [arboristlaw11_SpeclexShows.l0] at H); (by_cases c5 : x3_1 < (l0.length : Int))
    ·rw [if_pos c5] at H
     (have c5b0 : decide (x3_1 < (l0.length : Int)) = true := decide_eq_true c5); clear c5; (by_cases c6 : 0 ≤ x3_1)
     ·rw [if_pos c6] at H
      (have c6b0 : decide (0 ≤ x3_1) = true := decide_eq_true c6); clear c6; (by_cases c7 : (((rd_T32 l0 x3_1).f1).size : Int) > 300)
      ·rw [if_pos c7] at H
       (have c7b0 : decide (300 < (((rd_T32 l0 x3_1).f1).size : Int)) = true := decide_eq_true c7); (have c7b1 : decide (300 < ((rd_T32 l0 x3_1).f1).size) = true := decide_eq_true (by omega)); clear c7; (replace H := Option.bind_eq_some_iff.mp H); (obtain ⟨t233, A80, H⟩ := H); (replace H : (some t233) = some r := H); (have A8 := qM A80); clear A80; (obtain rfl := Option.some.inj H); (have p232 : 0 ≤ (x3_1 : Int) := qo qX); (have q232 : x3_1 < (l0.length : Int) := qo qX); (obtain ⟨ad232, e232, hx232_0, hx232_1, hx232_2⟩ := at_T32 HR0.out x3_1 p232 q232)
       cases e232
       (replace hx232_0 := (HB.out.cell (qB w _ hx232_0)).trans hx232_0); (replace hx232_1 := (HB.out.cell (qB w _ hx232_1)).trans hx232_1); (replace hx232_2 := (HB.out.cell (qB w _ hx232_2)).trans hx232_2); (replace p232 := eq_true p232); (replace q232 := eq_true q232)
       go_wp2_with (first | ((with_reducible refine gate_callee (f := 8) rfl ?_); refine goesL_ (some 21) rfl rfl Tryd.func8 (by kernel_rfl) rfl #[] rfl (by (try simp only [List.map_toArray, List.map_cons, List.map_nil]); first | done | rfl | (simp only [List.length_drop, List.length_take]; rfl)) ?_; (with_reducible refine (arboristlaw11_knows.calls k1  t233 _ ?side1 A8.out).mono ?_); (case side1 => exact GW.below HGW.out qF); rintro e w9 ⟨rfl, hb⟩; refine ⟨_, rfl, ?_⟩; have n0_ := qM (qP qF hb); clear HB; have HB := n0_; clear n0_; (try clear hb); (try clear hb2); (try clear hk); (try clear hi)))
       (go_ret); (exact ⟨qE, qF⟩)
      ·rw [if_neg c7] at H
       (have c7b0 : decide (300 < (((rd_T32 l0 x3_1).f1).size : Int)) = false := decide_eq_false c7); (have c7b1 : decide (300 < ((rd_T32 l0 x3_1).f1).size) = false := decide_eq_false (by omega)); clear c7; (have H' := qM H); clear H; (have p232 : 0 ≤ (x3_1 : Int) := qo qX); (have q232 : x3_1 < (l0.length : Int) := qo qX); (obtain ⟨ad232, e232, hx232_0, hx232_1, hx232_2⟩ := at_T32 HR0.out x3_1 p232 q232)
       cases e232
       (replace hx232_0 := (HB.out.cell (qB w _ hx232_0)).trans hx232_0); (replace hx232_1 := (HB.out.cell (qB w _ hx232_1)).trans hx232_1); (replace hx232_2 := (HB.out.cell (qB w _ hx232_2)).trans hx232_2); (replace p232 := eq_true p232); (replace q232 := eq_true q232); go_wp2; (go_roundg k1)
       case measure => have := HK1.out; omega
       case rel => exact ⟨(wrap64 (x3_1 + 1)), qV, H', ⟨by have := HK1.out; omega⟩, ⟨qF⟩⟩
     ·rw [if_neg c6] at H
      exact absurd H (by simp)
    ·rw [if_neg c5] at H
     (have c5b0 : decide (x3_1 < (l0.length : Int)) = false := decide_eq_false c5); clear c5; (replace H := Option.bind_eq_some_iff.mp H); (obtain ⟨t234, A100, H⟩ := H); (replace H : ((arboristref11_Show.f k1 l0).bind fun t235 => (if t234.toList = t235.toList then ((arboristlaw11_knows.f k1).bind fun t236 => (some t236)) else (some false))) = some r := H); (have A10 := qM A100); clear A100; (replace H := Option.bind_eq_some_iff.mp H); (obtain ⟨t235, A110, H⟩ := H); (replace H : (if t234.toList = t235.toList then ((arboristlaw11_knows.f k1).bind fun t236 => (some t236)) else (some false)) = some r := H); (have A11 := qM A110); clear A110; (by_cases c12 : t234.toList = t235.toList)
     ·rw [if_pos c12] at H
      (have c12b0 : (t234.toList == t235.toList) = true := beq_iff_eq.mpr c12); (have c12b1 : (t234.toList != t235.toList) = false := bne_eq_false_iff_eq.mpr c12); clear c12; (replace H := Option.bind_eq_some_iff.mp H); (obtain ⟨t236, A130, H⟩ := H); (replace H : (some t236) = some r := H); (have A13 := qM A130); clear A130; (obtain rfl := Option.some.inj H)
      go_wp2_with (first | ((with_reducible refine gate_callee (f := 12) rfl ?_); refine goesL_ (some 23) rfl rfl Tryd.func12 (by kernel_rfl) rfl #[.slice A0 l0.length c0] rfl (by (try simp only [List.map_toArray, List.map_cons, List.map_nil]); first | done | rfl | (simp only [List.length_drop, List.length_take]; rfl)) ?_; (with_reducible refine (speclex_Show.calls _ _ l0 t234 _ ?side3 ?side1 ?side2 A10.out).mono ?_); (case side1 => exact qC HR0.out qF); (case side2 => exact HC0.out); (case side3 => exact GW.below HGW.out qF); rintro e w14 ⟨rfl, hb⟩; refine ⟨_, rfl, ?_⟩; have n0_ := qM (qP qF hb); clear HB; have HB := n0_; clear n0_; (try clear hb); (try clear hb2); (try clear hk); (try clear hi)) | ((with_reducible refine gate_callee (f := 13) rfl ?_); refine goesL_ (some 25) rfl rfl Tryd.func13 (by kernel_rfl) rfl #[.slice A0 l0.length c0] rfl (by (try simp only [List.map_toArray, List.map_cons, List.map_nil]); first | done | rfl | (simp only [List.length_drop, List.length_take]; rfl)) ?_; (with_reducible refine (arboristref11_Show.calls k1 _ _ l0 t235 _ ?side1 ?side2 A11.out).mono ?_); (case side1 => exact qC HR0.out qF); (case side2 => exact HC0.out); rintro e w15 ⟨rfl, hb⟩; refine ⟨_, rfl, ?_⟩; have n0_ := qM (qP qF hb); clear HB; have HB := n0_; clear n0_; (try clear hb); (try clear hb2); (try clear hk); (try clear hi)) | (go_at_call 8; (with_reducible refine (arboristlaw11_knows.calls k1  t236 _ ?side1 A13.out).mono ?_); (case side1 => exact GW.below HGW.out qF); rintro e w16 ⟨rfl, hb⟩; have n0_ := qM (qP qF hb); clear HB; have HB := n0_; clear n0_; (try clear hb); (try clear hb2); (try clear hk); (try clear hi)))
      (go_ret); (exact ⟨qE, qF⟩)
     ·rw [if_neg c12] at H
      (have c12b0 : (t234.toList == t235.toList) = false := beq_eq_false_iff_ne.mpr c12); (have c12b1 : (t234.toList != t235.toList) = true := bne_iff_ne.mpr c12); (obtain rfl := Option.some.inj H)
      go_wp2_with (first | ((with_reducible refine gate_callee (f := 12) rfl ?_); refine goesL_ (some 23) rfl rfl Tryd.func12 (by kernel_rfl) rfl #[.slice A0 l0.length c0] rfl (by (try simp only [List.map_toArray, List.map_cons, List.map_nil]); first | done | rfl | (simp only [List.length_drop, List.length_take]; rfl)) ?_; (with_reducible refine (speclex_Show.calls _ _ l0 t234 _ ?side3 ?side1 ?side2 A10.out).mono ?_); (case side1 => exact qC HR0.out qF); (case side2 => exact HC0.out); (case side3 => exact GW.below HGW.out qF); rintro e w17 ⟨rfl, hb⟩; refine ⟨_, rfl, ?_⟩; have n0_ := qM (qP qF hb); clear HB; have HB := n0_; clear n0_; (try clear hb); (try clear hb2); (try clear hk); (try clear hi)) | ((with_reducible refine gate_callee (f := 13) rfl ?_); refine goesL_ (some 25) rfl rfl Tryd.func13 (by kernel_rfl) rfl #[.slice A0 l0.length c0] rfl (by (try simp only [List.map_toArray, List.map_cons, List.map_nil]); first | done | rfl | (simp only [List.length_drop, List.length_take]; rfl)) ?_; (with_reducible refine (arboristref11_Show.calls k1 _ _ l0 t235 _ ?side1 ?side2 A11.out).mono ?_); (case side1 => exact qC HR0.out qF); (case side2 => exact HC0.out); rintro e w18 ⟨rfl, hb⟩; refine ⟨_, rfl, ?_⟩; have n0_ := qM (qP qF hb); clear HB; have HB := n0_; clear n0_; (try clear hb); (try clear hb2); (try clear hk); (try clear hi)))
      (go_ret); (exact ⟨qE, qF⟩)
end Go.Proofs.YthijdjpipjbkbaaDoor.H
end
section
namespace Go.Proofs.YthijdjpipjbkbaaDoor.H
open Go.RowKit Go.Proofs.YthijdjpipjbkbaaDoorW.PrintWords Go.Proofs.YthijdjpipjbkbaaDoorW.PrintLast Go.Proofs.YthijdjpipjbkbaaDoorW.PrintMore
set_option linter.unusedVariables false
set_option linter.unusedSimpArgs false
theorem shows_l0 (l : List S32) (hl : l.length ≤ 100) (h8 : ∀ x ∈ l, x.f1.size ≤ reachBytes) : ∀ (r : List S32) (i : Nat), l.drop i = r → i ≤ l.length → (∀ m ∈ l.take i, m.f1.size ≤ 300) →
    Ends (fun k => arboristlaw11_SpeclexShows.l0 k l (i : Int)) true := by
  have e : reachBytes = 140737488351232 := rfl
  intro r
  induction r with
  | nil =>
    intro i hr hi hsm
    have := drop_nil hr
    obtain rfl : i = l.length := by omega
    rw [List.take_length] at hsm
    refine Ends.step (fun k => arboristlaw11_SpeclexShows.l0.eq_2 ..) (Ends.neg (by omega) ?_)
    have hf : speclex_Show.f l = some (ba (showFrom none l)) := by
      unfold speclex_Show.f
      rw [if_pos]; rfl
      unfold smallToks
      simp only [Bool.and_eq_true, decide_eq_true_eq, List.all_eq_true]
      exact ⟨by omega, fun m hm => by have := hsm m hm; omega⟩
    refine Ends.bind0 hf (Ends.bind ?_ (Ends.pos rfl knows_ends))
    have := rshow_l0 l (by omega) (fun m hm => by have := hsm m hm; omega) l 0 rfl (by omega)
    rw [List.take_zero] at this
    exact this
  | cons m r ih =>
    intro i hr hi hsm
    obtain ⟨hlt, hr2, hx⟩ := drop_cons hr
    have hm : l[i] = m := by
      have := hx z32
      rwa [List.getD_eq_getElem?_getD, List.getElem?_eq_getElem hlt, Option.getD_some] at this
    have hrd : rd_T32 l (i : Int) = m := (rdS l i hlt).trans hm
    refine Ends.step (fun k => arboristlaw11_SpeclexShows.l0.eq_2 ..) (Ends.pos (by omega) (Ends.pos (by omega) ?_))
    rw [hrd, next_nat i (by omega)]
    by_cases hb : (m.f1.size : Int) > 300
    · exact Ends.pos hb knows_ends
    · refine Ends.neg hb (ih (i + 1) hr2 hlt fun x hx => ?_)
      rw [List.take_succ_eq_append_getElem hlt, hm] at hx
      rcases List.mem_append.1 hx with q | q
      · exact hsm x q
      · rw [List.mem_singleton.1 q]; omega
theorem Pure.SpeclexShows (l : List S32) (h : l.length * 32 ≤ reachBytes ∧ ∀ y ∈ l, ok32 y) : ∃ k, arboristlaw11_SpeclexShows.f k l = some true := by
  refine Ends.get (g := fun k => arboristlaw11_SpeclexShows.f k l) ?_
  unfold arboristlaw11_SpeclexShows.f
  by_cases hl : (l.length : Int) > 100
  · exact Ends.pos hl knows_ends
  · exact Ends.neg hl (shows_l0 l (by omega) (fun x hx => ((ok32_iff x).1 (h.2 x hx)).2.1) l 0 rfl (by omega) (fun m hm => by simp at hm))
end Go.Proofs.YthijdjpipjbkbaaDoor.H
end
section
namespace Go.Proofs.YthijdjpipjbkbaaDoor.H.speclexShows
open Go.ChangeShapes Go.WideShapes Go.ChangeAt Go.RowKit Go.Proofs.YthijdjpipjbkbaaDoorW.PrintWords Go.Proofs.YthijdjpipjbkbaaDoorW.PrintLast Go.Proofs.YthijdjpipjbkbaaDoorW.PrintMore
open Go.ChangeMaps (open_string shut_string)
set_option linter.unusedVariables false
set_option linter.unusedSimpArgs false
theorem own : ownKnob Tryd.prog.godebug = none := by kernel_rfl
theorem laidOut : laidOutB Tryd.prog = true := by kernel_rfl
noncomputable def laidWorld (os : Os) : World := { World.holding Tryd.prog os ⟨#[], #[], []⟩ with heap := (((((((World.holding Tryd.prog os ⟨#[], #[], []⟩).heap).modify 5 (fun | .cells _ t frozen => .cells (([0, 1, 28, 2, 29, 14, 24, 3, 30, 22, 20, 15, 25, 17, 4, 8, 31, 27, 13, 23, 21, 19, 16, 7, 26, 12, 18, 6, 11, 5, 10, 9] : List Int).map fun z => Value.int .u8 z).toArray t frozen | o => o)).modify 6 (fun | .cells _ t frozen => .cells (([0, 1, 56, 2, 57, 49, 28, 3, 61, 58, 42, 50, 38, 29, 17, 4, 62, 47, 59, 36, 45, 43, 51, 22, 53, 39, 33, 30, 24, 18, 12, 5, 63, 55, 48, 27, 60, 41, 37, 16, 46, 35, 44, 21, 52, 32, 23, 11, 54, 26, 40, 15, 34, 20, 31, 10, 25, 14, 19, 9, 13, 8, 7, 6] : List Int).map fun z => Value.int .u8 z).toArray t frozen | o => o)).modify 4 (fun | .cells _ t frozen => .cells (([1, 10, 100, 1000, 10000, 100000, 1000000, 10000000, 100000000, 1000000000, 10000000000, 100000000000, 1000000000000, 10000000000000, 100000000000000, 1000000000000000, 10000000000000000, 100000000000000000, 1000000000000000000, 10000000000000000000] : List Int).map fun z => Value.int .u64 z).toArray t frozen | o => o)).modify 3 (fun | .cells _ t frozen => .cells (([128, 191, 160, 191, 128, 159, 144, 191, 128, 143, 0, 0, 0, 0, 0, 0, 0, 0, 0, 0, 0, 0, 0, 0, 0, 0, 0, 0, 0, 0, 0, 0] : List Int).map fun z => Value.int .u8 z).toArray t frozen | o => o)).modify 0 (fun | .cells _ t frozen => .cells (([[37, 109, 111, 100, 101], [37, 116, 111, 107, 101, 110], [37, 115, 107, 105, 112], [37, 119, 111, 114, 100], [37, 108, 101, 102, 116], [37, 114, 105, 103, 104, 116], [37, 110, 111, 110], [37, 111, 110, 108, 121], [37, 115, 116, 97, 114, 116], [37, 112, 114, 101, 99]] : List (List UInt8)).map fun s => Value.string ⟨s.toArray⟩).toArray t frozen | o => o)).modify 2 (fun | .cells _ t frozen => .cells (([240, 240, 240, 240, 240, 240, 240, 240, 240, 240, 240, 240, 240, 240, 240, 240, 240, 240, 240, 240, 240, 240, 240, 240, 240, 240, 240, 240, 240, 240, 240, 240, 240, 240, 240, 240, 240, 240, 240, 240, 240, 240, 240, 240, 240, 240, 240, 240, 240, 240, 240, 240, 240, 240, 240, 240, 240, 240, 240, 240, 240, 240, 240, 240, 240, 240, 240, 240, 240, 240, 240, 240, 240, 240, 240, 240, 240, 240, 240, 240, 240, 240, 240, 240, 240, 240, 240, 240, 240, 240, 240, 240, 240, 240, 240, 240, 240, 240, 240, 240, 240, 240, 240, 240, 240, 240, 240, 240, 240, 240, 240, 240, 240, 240, 240, 240, 240, 240, 240, 240, 240, 240, 240, 240, 240, 240, 240, 240, 241, 241, 241, 241, 241, 241, 241, 241, 241, 241, 241, 241, 241, 241, 241, 241, 241, 241, 241, 241, 241, 241, 241, 241, 241, 241, 241, 241, 241, 241, 241, 241, 241, 241, 241, 241, 241, 241, 241, 241, 241, 241, 241, 241, 241, 241, 241, 241, 241, 241, 241, 241, 241, 241, 241, 241, 241, 241, 241, 241, 241, 241, 241, 241, 241, 241, 2, 2, 2, 2, 2, 2, 2, 2, 2, 2, 2, 2, 2, 2, 2, 2, 2, 2, 2, 2, 2, 2, 2, 2, 2, 2, 2, 2, 2, 2, 19, 3, 3, 3, 3, 3, 3, 3, 3, 3, 3, 3, 3, 35, 3, 3, 52, 4, 4, 4, 68, 241, 241, 241, 241, 241, 241, 241, 241, 241, 241, 241] : List Int).map fun z => Value.int .u8 z).toArray t frozen | o => o) }
set_option maxRecDepth 100000 in
theorem laid_met (os : Os) (args : Array Value) : laidMet Tryd.prog Rows.speclexShowsRow.laid ((laidWorld os).forCall (fun _ _ => 0) ⟨#[], args, []⟩).memory := laidMet_of_run' 8 (by kernel_rfl) (by kernel_rfl)
set_option maxRecDepth 100000 in
theorem witness_row (os : Os) {H : Type} (enc : TypeId × Value → H) :
    (OpenSpec.ofChange Rows.speclexShowsSpec).preRow enc Tryd.prog Tryd.f4 Rows.speclexShowsRow.domain false Rows.speclexShowsRow.laid ((laidWorld os).forCall (fun _ _ => 0) ⟨#[], #[.slice none 0 0], []⟩).memory #[.slice none 0 0] := by
  have hw : (DataW.whole enc Tryd.prog ((laidWorld os).forCall (fun _ _ => 0) ⟨#[], #[.slice none 0 0], []⟩).memory Tryd.f4.params.toList (OpenSpec.ofChange Rows.speclexShowsSpec).vars false (#[.slice none 0 0] : Array Value).toList 8).map (fun x => (x.1, x.2.1)) =
      some ([.nil], []) := by kernel_rfl
  obtain ⟨⟨x1, x2, x3⟩, hx, hx1⟩ := Option.map_eq_some_iff.1 hw
  simp only [Prod.mk.injEq] at hx1
  obtain ⟨rfl, rfl⟩ := hx1
  exact OpenSpec.preRow_of_cond 8 hx (by kernel_rfl) (fun k hk => by cases hk) (by kernel_rfl) (laid_met os _)
set_option maxRecDepth 100000 in
set_option maxHeartbeats 2000000 in
theorem lifted (os : Os) (started : os.Started) (H : Type) (enc : TypeId × Value → H) (F : Stop.Interp) :
    ReturnsInHanded {} Tryd.checked os 4 .any ((OpenSpec.ofChange Rows.speclexShowsSpec).preRow enc Tryd.prog Tryd.f4 Rows.speclexShowsRow.domain false Rows.speclexShowsRow.laid) (((OpenSpec.ofChange Rows.speclexShowsSpec).at F).post enc Tryd.prog Tryd.f4 false true false false) := by
  refine returnsInHanded_of_row (C := Tryd.checked) (s := (OpenSpec.ofChange Rows.speclexShowsSpec)) own started (by kernel_rfl) Tryd.func4
    (witness_row_at (enc := enc) (C := Tryd.checked) false (laidWorld os) #[.slice none 0 0] rfl (by kernel_rfl) (by kernel_rfl) (by kernel_rfl) (witness_row os enc)) ?_
  intro W base args ds gs before hval0 hW _ hcond0 hsz0 hL hsh _
  have hsz : (DataW.weightsEach Tryd.prog (Tryd.f4.params.toList ++ (OpenSpec.ofChange Rows.speclexShowsSpec).bare.plain.varTypes Tryd.prog) (ds ++ gs)).all (· ≤ reachBytes) = true := hsz0
  have hval : ∀ (j : Nat) t v, Tryd.f4.params[j]? = some t → args[j]? = some v → Value.okWide Tryd.prog W .any base t v := hval0
  have hW' := hW
  obtain ⟨p, q, hA0, hV0, rfl, _, _⟩ := hW
  have hA : DataW.TrodAll enc Tryd.prog W 0 (fun _ => true) true Tryd.f4.params.toList args.toList ds p := hA0
  rw [Tryd.params4] at hA hval hsz
  obtain ⟨v0, vs0, d0, ds0, p0, q0, hargs, rfl, rfl, h0, r0⟩ := trodAll_cons hA
  obtain ⟨rfl, rfl, rfl⟩ := trodAll_nil r0
  obtain rfl : args = #[v0] := by cases args; simp_all
  obtain ⟨rfl, rfl⟩ := trodVars_none hV0
  have hlt : ∀ x ∈ p0 ++ ([]), x.block < W.heap.size := fun x hx => by simpa using hW'.lt x (by simpa using hx)
  obtain ⟨A0, len0, cap0, rfl⟩ := okWide_slice Tryd.underlying23 (hval 0 23 v0 rfl rfl)
  obtain ⟨a0, hK0, ok0_, sz0_⟩ := Opens.of (fun b => (opens_slice Tryd.underlying23 (by kernel_rfl) (B := 32) (by kernel_rfl) (opens_k32 _))) hsz (j := 0) (t := 23) rfl rfl h0
  obtain ⟨A0', c0', e0_, l0, g0⟩ := hK0
  simp [Value.cells] at e0_
  obtain ⟨rfl, rfl, rfl⟩ := e0_
  have hgw : GW W := gw_of hsh (Go.Lib.laidMet.reads hL (List.Mem.tail _ (List.Mem.tail _ (List.Mem.head _)))) (Go.Lib.laidMet.reads hL (List.Mem.tail _ (List.Mem.tail _ (List.Mem.tail _ (List.Mem.tail _ (List.Mem.tail _ (List.Mem.head _))))))) (Go.Lib.laidMet.reads hL (List.Mem.tail _ (List.Mem.tail _ (List.Mem.tail _ (List.Mem.head _))))) (Go.Lib.laidMet.reads hL (List.Mem.tail _ (List.Mem.head _))) (Go.Lib.laidMet.reads hL (List.Mem.tail _ (List.Mem.tail _ (List.Mem.tail _ (List.Mem.tail _ (List.Mem.head _))))))
  clear hcond0 hsz0 hA0 hV0 hval0
  obtain ⟨k, hf⟩ := Pure.SpeclexShows a0 ok0_
  refine (arboristlaw11_SpeclexShows.calls k _ _ a0 true W hgw g0 l0 hf).mono fun e W' ⟨he, bel⟩ => ?_
  subst he
  exact ⟨_, rfl, _, _, _, [], _, [], hW', trodAll_mk1 (shut_bool Tryd.underlying4 _), (trodAll_cons_mk (Below.trod laidOut (by kernel_rfl) (of_decide_eq_true (by kernel_rfl)) h0 bel (fun x hx => hlt x (by simp [hx]))) trodAll_mk0), rfl, bel.frame _, fun h => by cases h⟩
set_option maxRecDepth 100000 in
theorem holds : Rows.speclexShowsRow.holds Tryd.pinned (OpenSpec.ofChange Rows.speclexShowsSpec) :=
  OpenClaim.holds_of_cond 4 Tryd.f4 rfl rfl rfl rfl rfl rfl rfl ⟨rfl, rfl, rfl, rfl, rfl⟩ rfl rfl rfl rfl rfl (by kernel_rfl) Tryd.func4 (by kernel_rfl)
    (of_decide_eq_true (by kernel_rfl)) (by unfold Func.isWrapper; first | (rw [if_pos (by decide +kernel)]; kernel_rfl) | (rw [if_neg (by decide +kernel)]; exact ⟨rfl, rfl⟩))
    (fun os started H enc _ F0 => by rw [OpenClaim.pre_eq_preRow]; exact lifted os started H enc F0)
set_option maxRecDepth 100000 in
theorem card : Rows.SpeclexShowsCardSaid :=
  Claim7.holds_tied_plain_at .later [] [.data, .data, .data, .data, .data, .pinned] true (true, "b9848e23086db2b19e13492054286a997c9905366071f1e75882b886d57ef9ba") false
    holds (fun _ h => by cases h) (by kernel_rfl) (fun _ h => by cases h) speclexShows_row_tie rfl ⟨rfl, rfl⟩ (by kernel_rfl) rfl
    (fun f fn hf hfn => by
      obtain rfl : f = 4 := Option.some.inj ((show Tryd.prog.funcNamed "arborist/arboristlaw11.SpeclexShows" = some 4 by kernel_rfl).symm.trans hf) |>.symm
      obtain rfl : fn = Tryd.f4 := (Option.some.inj (Tryd.func4.symm.trans hfn)).symm
      exact ⟨by kernel_rfl, fun j t ht => by
        rw [Tryd.params4] at ht
        rcases j with _ | j
        · obtain rfl : t = 23 := by simpa using ht.symm
          kernel_rfl
        · simp at ht⟩)
    (by kernel_rfl)
#print axioms card
end Go.Proofs.YthijdjpipjbkbaaDoor.H.speclexShows
namespace Go.Proofs.YthijdjpipjbkbaaDoor
theorem speclexShows_card : Rows.SpeclexShowsCardSaid := H.speclexShows.card
#print axioms speclexShows_card
end Go.Proofs.YthijdjpipjbkbaaDoor
end
