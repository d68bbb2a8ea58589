/- A part (3 of 5) of this proof: For every text that the guards let in, SpeclexScans returns true: Scan returns the tokens of the reference, or the same first error. -/
import Derived.Test.YthijdjpipjbkbaaDoorZc2
section
namespace Go.Proofs.YthijdjpipjbkbaaDoor.H
open Go.RowKit Go.Proofs.YthijdjpipjbkbaaDoorW.PrintWords Go.Proofs.YthijdjpipjbkbaaDoorW.PrintLast Go.Proofs.YthijdjpipjbkbaaDoorW.PrintMore
attribute [local go_sem] max2_int min2_int max_two min_two max_three min_three max_four min_four
set_option linter.unusedVariables false
set_option linter.unusedSimpArgs false
mutual
def arboristref11_blank.l0 : Nat → ByteArray → Int → Int → Option (Int)
  | 0, _, _, _ => none
  | k + 1, x0, x1, x5 => if (wrap64 (x1 + x5)) < (x0.size : Int) then (if 0 ≤ (wrap64 (x1 + x5)) then (if (bt x0 (wrap64 (x1 + x5))) = 32 then (arboristref11_blank.j1 k x0 x1 x5 (bt x0 (wrap64 (x1 + x5))) true) else (if (bt x0 (wrap64 (x1 + x5))) = 9 then (arboristref11_blank.j1 k x0 x1 x5 (bt x0 (wrap64 (x1 + x5))) true) else (if (bt x0 (wrap64 (x1 + x5))) = 10 then (arboristref11_blank.j1 k x0 x1 x5 (bt x0 (wrap64 (x1 + x5))) true) else (arboristref11_blank.j1 k x0 x1 x5 (bt x0 (wrap64 (x1 + x5))) ((bt x0 (wrap64 (x1 + x5))) == 13))))) else (none)) else (some x5)
def arboristref11_blank.j1 : Nat → ByteArray → Int → Int → Int → Bool → Option (Int)
  | 0, _, _, _, _, _ => none
  | k + 1, x0, x1, x5, x6, x19 => if x19 = true then (arboristref11_blank.l0 k x0 x1 (wrap64 (x5 + 1))) else (if x6 = 35 then (if (wrap64 ((wrap64 (x1 + x5)) + 1)) ≥ (x0.size : Int) then (arboristref11_blank.j2 k x0 x1 x5 true) else (if 0 ≤ (wrap64 ((wrap64 (x1 + x5)) + 1)) then (if (wrap64 ((wrap64 (x1 + x5)) + 1)) < (x0.size : Int) then ((arboristref11_letter.f (bt x0 (wrap64 ((wrap64 (x1 + x5)) + 1)))).bind fun t120 => (arboristref11_blank.j2 k x0 x1 x5 (!t120))) else (none)) else (none))) else (arboristref11_blank.j2 k x0 x1 x5 false))
def arboristref11_blank.j2 : Nat → ByteArray → Int → Int → Bool → Option (Int)
  | 0, _, _, _, _ => none
  | k + 1, x0, x1, x5, x36 => if x36 = true then (arboristref11_blank.l1 k x0 x1 x5) else (some x5)
def arboristref11_blank.l1 : Nat → ByteArray → Int → Int → Option (Int)
  | 0, _, _, _ => none
  | k + 1, x0, x1, x5 => if (wrap64 (x1 + x5)) < (x0.size : Int) then (if 0 ≤ (wrap64 (x1 + x5)) then (if (bt x0 (wrap64 (x1 + x5))) = 10 then (arboristref11_blank.l0 k x0 x1 x5) else (arboristref11_blank.l1 k x0 x1 (wrap64 (x5 + 1)))) else (none)) else (arboristref11_blank.l0 k x0 x1 x5)
end
def arboristref11_blank.f (k : Nat) (a0 : ByteArray) (a1 : Int) : Option (Int) := arboristref11_blank.l0 k a0 a1 0
set_option maxHeartbeats 8000000 in
set_option maxRecDepth 100000 in
theorem arboristref11_blank.calls (k : Nat) (a0 : ByteArray) (a1 : Int) (r : Int) (w : World) (h : arboristref11_blank.f k a0 a1 = some r) :
    Calls Tryd.prog 18 #[.string a0, .int .i64 a1] w fun e w' => e = .returned (.int .i64 r) ∧ Drawn0 w w' := by
  have H : (arboristref11_blank.l0 k a0 a1 0) = some r := h
  clear h
  have H' := Aside0.mk H
  clear H
  go_enter Tryd.func18, Tryd.ntmps18
  go_wp2
  go_loopg [5] k (fun kq v5 w' => ∃ (x5_1 : Int), v5 = .int .i64 x5_1 ∧ Aside0 (arboristref11_blank.l0 kq a0 a1 x5_1 = some r) ∧ Aside0 (kq ≤ k) ∧ Drawn0 w w')
  case atStart => exact ⟨(0), (by first | rfl | (simp; done) | (simp [*]; done)), H', ⟨Nat.le_refl _⟩, by repeat (first | exact Drawn0.refl _ | apply Drawn0.step)⟩
  case round =>
    clear H'
    try clear c1
    try clear p2
    obtain ⟨x5_1, rfl, HA, HK1, ⟨m1, rfl⟩⟩ := hrel
    cases gk with
    | zero => exact absurd HA.out (by simp [arboristref11_blank.l0])
    | succ k1 =>
      have H := HA.out
      clear HA
      simp only [arboristref11_blank.l0] at H
      by_cases c3 : (wrap64 (a1 + x5_1)) < (a0.size : Int)
      · rw [if_pos c3] at H
        have c3b0 : decide ((wrap64 (a1 + x5_1)) < (a0.size : Int)) = true := decide_eq_true c3
        clear c3
        obtain ⟨ji4, hji4⟩ : ∃ j_ : Int, (wrap64 (a1 + x5_1)) = j_ := ⟨_, rfl⟩
        replace H : (if 0 ≤ (ji4) then (if (bt a0 (ji4)) = 32 then (arboristref11_blank.j1 k1 a0 a1 x5_1 (bt a0 (ji4)) true) else (if (bt a0 (ji4)) = 9 then (arboristref11_blank.j1 k1 a0 a1 x5_1 (bt a0 (ji4)) true) else (if (bt a0 (ji4)) = 10 then (arboristref11_blank.j1 k1 a0 a1 x5_1 (bt a0 (ji4)) true) else (arboristref11_blank.j1 k1 a0 a1 x5_1 (bt a0 (ji4)) ((bt a0 (ji4)) == 13))))) else (none)) = some r := by first | (rw [hji4] at H; exact H) | (simp only [hji4] at H ⊢; exact H)
        (try rw [hji4] at c3b0)
        have hji4w : (IntKind.i64.wrap (a1 + x5_1)) = ji4 := (i64_w _).trans hji4
        by_cases c5 : 0 ≤ (ji4)
        · rw [if_pos c5] at H
          have c5b0 : decide (0 ≤ (ji4)) = true := decide_eq_true c5
          clear c5
          have HC7 := Aside0.mk H
          clear H
          have p6 : 0 ≤ ((ji4) : Int) := of_decide_eq_true (by first | (with_reducible assumption) | assumption)
          have q6 : (ji4) < (a0.size : Int) := of_decide_eq_true (by first | (with_reducible assumption) | assumption)
          have hx6 := bt_at a0 (ji4)
          replace p6 := eq_true p6
          replace q6 := eq_true q6
          go_upto_region 5 with (fail)
          go_cut [19] (fun v19 wc => ∃ (kq : Nat) (x19_6 : Bool), v19 = .bool x19_6 ∧ Aside0 (arboristref11_blank.j1 kq a0 a1 x5_1 (bt a0 (ji4)) x19_6 = some r) ∧ Aside0 (kq ≤ k1) ∧ Drawn0 w wc)
          case first =>
            have H := HC7.out
            clear HC7
            by_cases c8 : (bt a0 (ji4)) = 32
            · rw [if_pos c8] at H
              have c8b0 : ((bt a0 (ji4)) == 32) = true := beq_iff_eq.mpr c8
              have c8b1 : ((bt a0 (ji4)) != 32) = false := bne_eq_false_iff_eq.mpr c8
              clear c8
              (first | rw [c8b0] | (simp only [i64_w, i32_w]; rw [c8b0]) | skip)
              have H' := Aside0.mk H
              clear H
              go_wp2
              go_meet
              case rel => exact ⟨_, (true), (by first | rfl | (simp; done) | (simp [*]; done)), H', ⟨by have := HK1.out; first | omega | exact Nat.le_refl _⟩, by repeat (first | exact Drawn0.refl _ | apply Drawn0.step)⟩
            · rw [if_neg c8] at H
              have c8b0 : ((bt a0 (ji4)) == 32) = false := beq_eq_false_iff_ne.mpr c8
              have c8b1 : ((bt a0 (ji4)) != 32) = true := bne_iff_ne.mpr c8
              (first | rw [c8b0] | (simp only [i64_w, i32_w]; rw [c8b0]) | skip)
              by_cases c9 : (bt a0 (ji4)) = 9
              · rw [if_pos c9] at H
                have c9b0 : ((bt a0 (ji4)) == 9) = true := beq_iff_eq.mpr c9
                have c9b1 : ((bt a0 (ji4)) != 9) = false := bne_eq_false_iff_eq.mpr c9
                clear c9
                have H' := Aside0.mk H
                clear H
                go_wp2
                go_meet
                case rel => exact ⟨_, (true), (by first | rfl | (simp; done) | (simp [*]; done)), H', ⟨by have := HK1.out; first | omega | exact Nat.le_refl _⟩, by repeat (first | exact Drawn0.refl _ | apply Drawn0.step)⟩
              · rw [if_neg c9] at H
                have c9b0 : ((bt a0 (ji4)) == 9) = false := beq_eq_false_iff_ne.mpr c9
                have c9b1 : ((bt a0 (ji4)) != 9) = true := bne_iff_ne.mpr c9
                by_cases c10 : (bt a0 (ji4)) = 10
                · rw [if_pos c10] at H
                  have c10b0 : ((bt a0 (ji4)) == 10) = true := beq_iff_eq.mpr c10
                  have c10b1 : ((bt a0 (ji4)) != 10) = false := bne_eq_false_iff_eq.mpr c10
                  clear c10
                  have H' := Aside0.mk H
                  clear H
                  go_wp2
                  go_meet
                  case rel => exact ⟨_, (true), (by first | rfl | (simp; done) | (simp [*]; done)), H', ⟨by have := HK1.out; first | omega | exact Nat.le_refl _⟩, by repeat (first | exact Drawn0.refl _ | apply Drawn0.step)⟩
                · rw [if_neg c10] at H
                  have c10b0 : ((bt a0 (ji4)) == 10) = false := beq_eq_false_iff_ne.mpr c10
                  have c10b1 : ((bt a0 (ji4)) != 10) = true := bne_iff_ne.mpr c10
                  have H' := Aside0.mk H
                  clear H
                  go_wp2
                  go_meet
                  case rel => exact ⟨_, (((bt a0 (ji4)) == 13)), (by first | rfl | (simp; done) | (simp only [← hji4] <;> (first | rfl | simp)) | (simp [*]; done)), H', ⟨by have := HK1.out; first | omega | exact Nat.le_refl _⟩, by repeat (first | exact Drawn0.refl _ | apply Drawn0.step)⟩
          case rest =>
            clear HC7
            try clear c1
            try clear p2
            try clear c3
            try clear c3b0
            try clear c5
            try clear c5b0
            try clear p6
            try clear q6
            try clear hx6
            try clear c8
            try clear c8b0
            try clear c8b1
            try clear c9
            try clear c9b0
            try clear c9b1
            try clear c10
            try clear c10b0
            try clear c10b1
            try clear p2
            try clear p6
            try clear q6
            obtain ⟨kq, x19_6, rfl, HA, HJ6, ⟨mc6, rfl⟩⟩ := hcut
            cases kq with
            | zero => exact absurd HA.out (by simp [arboristref11_blank.j1])
            | succ kj6 =>
              have H := HA.out
              clear HA
              simp only [arboristref11_blank.j1] at H
              by_cases c11 : x19_6 = true
              · subst c11
                have H1 : (arboristref11_blank.l0 kj6 a0 a1 (wrap64 (x5_1 + 1))) = some r := by rw [if_pos rfl] at H; exact H
                clear H
                have H := H1
                clear H1
                have H' := Aside0.mk H
                clear H
                go_wp2
                go_roundg kj6
                case measure => have := HK1.out; have := HJ6.out; omega
                case rel => exact ⟨(wrap64 (x5_1 + 1)), (by first | rfl | (simp; done) | (simp [*]; done)), H', ⟨by have := HK1.out; have := HJ6.out; omega⟩, by repeat (first | exact Drawn0.refl _ | apply Drawn0.step)⟩
              · replace c11 := Bool.eq_false_iff.mpr c11
                subst c11
                have H1 : (if (bt a0 (ji4)) = 35 then (if (wrap64 ((wrap64 (a1 + x5_1)) + 1)) ≥ (a0.size : Int) then (arboristref11_blank.j2 kj6 a0 a1 x5_1 true) else (if 0 ≤ (wrap64 ((wrap64 (a1 + x5_1)) + 1)) then (if (wrap64 ((wrap64 (a1 + x5_1)) + 1)) < (a0.size : Int) then ((arboristref11_letter.f (bt a0 (wrap64 ((wrap64 (a1 + x5_1)) + 1)))).bind fun t120 => (arboristref11_blank.j2 kj6 a0 a1 x5_1 (!t120))) else (none)) else (none))) else (arboristref11_blank.j2 kj6 a0 a1 x5_1 false)) = some r := by rw [if_neg (show ¬ (false = true) by decide)] at H; exact H
                clear H
                have H := H1
                clear H1
                have HC12 := Aside0.mk H
                clear H
                go_upto_region 7 with (fail)
                go_cut [36] (fun v36 wc => ∃ (kq : Nat) (x36_11 : Bool), v36 = .bool x36_11 ∧ Aside0 (arboristref11_blank.j2 kq a0 a1 x5_1 x36_11 = some r) ∧ Aside0 (kq ≤ kj6) ∧ Drawn0 w wc)
                case first =>
                  have H := HC12.out
                  rw [hji4] at H
                  clear HC12
                  by_cases c13 : (bt a0 (ji4)) = 35
                  · rw [if_pos c13] at H
                    have c13b0 : ((bt a0 (ji4)) == 35) = true := beq_iff_eq.mpr c13
                    have c13b1 : ((bt a0 (ji4)) != 35) = false := bne_eq_false_iff_eq.mpr c13
                    clear c13
                    (first | rw [c13b0] | (simp only [i64_w, i32_w]; rw [c13b0]) | skip)
                    by_cases c14 : (wrap64 ((ji4) + 1)) ≥ (a0.size : Int)
                    · rw [if_pos c14] at H
                      have c14b0 : decide ((a0.size : Int) ≤ (wrap64 ((ji4) + 1))) = true := decide_eq_true c14
                      clear c14
                      have H' := Aside0.mk H
                      clear H
                      go_wp2
                      go_meet
                      case rel => exact ⟨_, (true), (by first | rfl | (simp; done) | (simp [*]; done)), H', ⟨by have := HK1.out; have := HJ6.out; first | omega | exact Nat.le_refl _⟩, by repeat (first | exact Drawn0.refl _ | apply Drawn0.step)⟩
                    · rw [if_neg c14] at H
                      have c14b0 : decide ((a0.size : Int) ≤ (wrap64 ((ji4) + 1))) = false := decide_eq_false c14
                      clear c14
                      obtain ⟨ji15, hji15⟩ : ∃ j_ : Int, (wrap64 ((ji4) + 1)) = j_ := ⟨_, rfl⟩
                      replace H : (if 0 ≤ (ji15) then (if (ji15) < (a0.size : Int) then ((arboristref11_letter.f (bt a0 (ji15))).bind fun t120 => (arboristref11_blank.j2 kj6 a0 a1 x5_1 (!t120))) else (none)) else (none)) = some r := by first | (rw [hji15] at H; exact H) | (simp only [hji15] at H ⊢; exact H)
                      (try rw [hji15] at c14b0)
                      have hji15w : (IntKind.i64.wrap ((ji4) + 1)) = ji15 := (i64_w _).trans hji15
                      by_cases c16 : 0 ≤ (ji15)
                      · rw [if_pos c16] at H
                        have c16b0 : decide (0 ≤ (ji15)) = true := decide_eq_true c16
                        clear c16
                        by_cases c17 : (ji15) < (a0.size : Int)
                        · rw [if_pos c17] at H
                          have c17b0 : decide ((ji15) < (a0.size : Int)) = true := decide_eq_true c17
                          clear c17
                          replace H := Option.bind_eq_some_iff.mp H
                          obtain ⟨t120, A190, H⟩ := H
                          replace H : (arboristref11_blank.j2 kj6 a0 a1 x5_1 (!t120)) = some r := H
                          have A19 := Aside0.mk A190
                          clear A190
                          have H' := Aside0.mk H
                          clear H
                          have p18 : 0 ≤ ((ji15) : Int) := of_decide_eq_true (by first | (with_reducible assumption) | assumption)
                          have q18 : (ji15) < (a0.size : Int) := of_decide_eq_true (by first | (with_reducible assumption) | assumption)
                          have hx18 := bt_at a0 (ji15)
                          replace p18 := eq_true p18
                          replace q18 := eq_true q18
                          go_wp2_with (first | (go_at_call 31; (with_reducible refine (arboristref11_letter.calls (bt a0 (ji15)) t120 _ A19.out).mono ?_); rintro e w' ⟨rfl, ⟨nd, rfl⟩⟩))
                          go_meet
                          case rel => exact ⟨_, (!t120), (by first | rfl | (simp; done) | (simp [*]; done)), H', ⟨by have := HK1.out; have := HJ6.out; first | omega | exact Nat.le_refl _⟩, by repeat (first | exact Drawn0.refl _ | apply Drawn0.step)⟩
                        · rw [if_neg c17] at H
                          exact absurd H (by simp)
                      · rw [if_neg c16] at H
                        exact absurd H (by simp)
                  · rw [if_neg c13] at H
                    have c13b0 : ((bt a0 (ji4)) == 35) = false := beq_eq_false_iff_ne.mpr c13
                    have c13b1 : ((bt a0 (ji4)) != 35) = true := bne_iff_ne.mpr c13
                    (first | rw [c13b0] | (simp only [i64_w, i32_w]; rw [c13b0]) | skip)
                    have H' := Aside0.mk H
                    clear H
                    go_wp2
                    go_meet
                    case rel => exact ⟨_, (false), (by first | rfl | (simp; done) | (simp [*]; done)), H', ⟨by have := HK1.out; have := HJ6.out; first | omega | exact Nat.le_refl _⟩, by repeat (first | exact Drawn0.refl _ | apply Drawn0.step)⟩
                case rest =>
                  clear HC12
                  try clear c1
                  try clear p1
                  try clear q1
                  try clear hx1
                  try clear p2
                  try clear c3
                  try clear c3b0
                  try clear c5
                  try clear c5b0
                  try clear c6
                  try clear p6
                  try clear q6
                  try clear hx6
                  try clear c8
                  try clear c8b0
                  try clear c8b1
                  try clear c9
                  try clear c9b0
                  try clear c9b1
                  try clear c10
                  try clear c10b0
                  try clear c10b1
                  try clear c11
                  try clear c13
                  try clear c13b0
                  try clear c13b1
                  try clear c14
                  try clear c14b0
                  try clear c16
                  try clear c16b0
                  try clear c17
                  try clear c17b0
                  try clear c18
                  try clear p18
                  try clear q18
                  try clear hx18
                  try clear p18
                  try clear p2
                  try clear p6
                  try clear q18
                  try clear q6
                  obtain ⟨kq, x36_11, rfl, HA, HJ11, ⟨mc11, rfl⟩⟩ := hcut
                  cases kq with
                  | zero => exact absurd HA.out (by simp [arboristref11_blank.j2])
                  | succ kj11 =>
                    have H := HA.out
                    clear HA
                    simp only [arboristref11_blank.j2] at H
                    by_cases c20 : x36_11 = true
                    · subst c20
                      have H1 : (arboristref11_blank.l1 kj11 a0 a1 x5_1) = some r := by rw [if_pos rfl] at H; exact H
                      clear H
                      have H := H1
                      clear H1
                      have H' := Aside0.mk H
                      clear H
                      go_wp2
                      go_loopg [5] kj11 (fun kq v5 w' => ∃ (x5_4 : Int), v5 = .int .i64 x5_4 ∧ Aside0 (arboristref11_blank.l1 kq a0 a1 x5_4 = some r) ∧ Aside0 (kq ≤ kj11) ∧ Drawn0 w w')
                      case atStart => exact ⟨(x5_1), (by first | rfl | (simp; done) | (simp [*]; done)), H', ⟨Nat.le_refl _⟩, by repeat (first | exact Drawn0.refl _ | apply Drawn0.step)⟩
                      case round =>
                        clear H'
                        try clear c1
                        try clear p1
                        try clear q1
                        try clear hx1
                        try clear c2
                        try clear p2
                        try clear c3
                        try clear c3b0
                        try clear c5
                        try clear c5b0
                        try clear c6
                        try clear p6
                        try clear q6
                        try clear hx6
                        try clear c8
                        try clear c8b0
                        try clear c8b1
                        try clear c9
                        try clear c9b0
                        try clear c9b1
                        try clear c10
                        try clear c10b0
                        try clear c10b1
                        try clear c11
                        try clear c13
                        try clear c13b0
                        try clear c13b1
                        try clear c14
                        try clear c14b0
                        try clear c16
                        try clear c16b0
                        try clear c17
                        try clear c17b0
                        try clear c18
                        try clear p18
                        try clear q18
                        try clear hx18
                        try clear c20
                        try clear p1
                        try clear p18
                        try clear p2
                        try clear p6
                        try clear q1
                        try clear q18
                        try clear q6
                        obtain ⟨x5_4, rfl, HA, HK4, ⟨m4, rfl⟩⟩ := hrel
                        cases gk with
                        | zero => exact absurd HA.out (by simp [arboristref11_blank.l1])
                        | succ k4 =>
                          have H := HA.out
                          clear HA
                          simp only [arboristref11_blank.l1] at H
                          by_cases c21 : (wrap64 (a1 + x5_4)) < (a0.size : Int)
                          · rw [if_pos c21] at H
                            have c21b0 : decide ((wrap64 (a1 + x5_4)) < (a0.size : Int)) = true := decide_eq_true c21
                            clear c21
                            obtain ⟨ji22, hji22⟩ : ∃ j_ : Int, (wrap64 (a1 + x5_4)) = j_ := ⟨_, rfl⟩
                            replace H : (if 0 ≤ (ji22) then (if (bt a0 (ji22)) = 10 then (arboristref11_blank.l0 k4 a0 a1 x5_4) else (arboristref11_blank.l1 k4 a0 a1 (wrap64 (x5_4 + 1)))) else (none)) = some r := by first | (rw [hji22] at H; exact H) | (simp only [hji22] at H ⊢; exact H)
                            (try rw [hji22] at c21b0)
                            have hji22w : (IntKind.i64.wrap (a1 + x5_4)) = ji22 := (i64_w _).trans hji22
                            by_cases c23 : 0 ≤ (ji22)
                            · rw [if_pos c23] at H
                              have c23b0 : decide (0 ≤ (ji22)) = true := decide_eq_true c23
                              clear c23
                              by_cases c25 : (bt a0 (ji22)) = 10
                              · rw [if_pos c25] at H
                                have c25b0 : ((bt a0 (ji22)) == 10) = true := beq_iff_eq.mpr c25
                                have c25b1 : ((bt a0 (ji22)) != 10) = false := bne_eq_false_iff_eq.mpr c25
                                clear c25
                                have H' := Aside0.mk H
                                clear H
                                have p24 : 0 ≤ ((ji22) : Int) := of_decide_eq_true (by first | (with_reducible assumption) | assumption)
                                have q24 : (ji22) < (a0.size : Int) := of_decide_eq_true (by first | (with_reducible assumption) | assumption)
                                have hx24 := bt_at a0 (ji22)
                                replace p24 := eq_true p24
                                replace q24 := eq_true q24
                                go_wp2
                                go_roundg k4
                                case measure => have := HK1.out; have := HJ6.out; have := HJ11.out; have := HK4.out; omega
                                case rel => exact ⟨(x5_4), (by first | rfl | (simp; done) | (simp [*]; done)), H', ⟨by have := HK1.out; have := HJ6.out; have := HJ11.out; have := HK4.out; omega⟩, by repeat (first | exact Drawn0.refl _ | apply Drawn0.step)⟩
                              · rw [if_neg c25] at H
                                have c25b0 : ((bt a0 (ji22)) == 10) = false := beq_eq_false_iff_ne.mpr c25
                                have c25b1 : ((bt a0 (ji22)) != 10) = true := bne_iff_ne.mpr c25
                                have H' := Aside0.mk H
                                clear H
                                have p24 : 0 ≤ ((ji22) : Int) := of_decide_eq_true (by first | (with_reducible assumption) | assumption)
                                have q24 : (ji22) < (a0.size : Int) := of_decide_eq_true (by first | (with_reducible assumption) | assumption)
                                have hx24 := bt_at a0 (ji22)
                                replace p24 := eq_true p24
                                replace q24 := eq_true q24
                                go_wp2
                                go_roundg k4
                                case measure => have := HK1.out; have := HJ6.out; have := HJ11.out; have := HK4.out; omega
                                case rel => exact ⟨(wrap64 (x5_4 + 1)), (by first | rfl | (simp; done) | (simp [*]; done)), H', ⟨by have := HK1.out; have := HJ6.out; have := HJ11.out; have := HK4.out; omega⟩, by repeat (first | exact Drawn0.refl _ | apply Drawn0.step)⟩
                            · rw [if_neg c23] at H
                              exact absurd H (by simp)
                          · rw [if_neg c21] at H
                            have c21b0 : decide ((wrap64 (a1 + x5_4)) < (a0.size : Int)) = false := decide_eq_false c21
                            clear c21
                            have H' := Aside0.mk H
                            clear H
                            go_wp2
                            go_roundg k4
                            case measure => have := HK1.out; have := HJ6.out; have := HJ11.out; have := HK4.out; omega
                            case rel => exact ⟨(x5_4), (by first | rfl | (simp; done) | (simp [*]; done)), H', ⟨by have := HK1.out; have := HJ6.out; have := HJ11.out; have := HK4.out; omega⟩, by repeat (first | exact Drawn0.refl _ | apply Drawn0.step)⟩
                    · replace c20 := Bool.eq_false_iff.mpr c20
                      subst c20
                      have H1 : (some x5_1) = some r := by rw [if_neg (show ¬ (false = true) by decide)] at H; exact H
                      clear H
                      have H := H1
                      clear H1
                      obtain rfl := Option.some.inj H
                      go_wp2
                      go_ret
                      exact ⟨by first | rfl | (simp; done) | (simp only [← hji4] <;> (first | rfl | simp)) | (simp [*]; done), by repeat (first | exact Drawn0.refl _ | apply Drawn0.step)⟩
        · rw [if_neg c5] at H
          exact absurd H (by simp)
      · rw [if_neg c3] at H
        have c3b0 : decide ((wrap64 (a1 + x5_1)) < (a0.size : Int)) = false := decide_eq_false c3
        clear c3
        obtain rfl := Option.some.inj H
        go_wp2
        go_ret
        exact ⟨by first | rfl | (simp; done) | (simp [*]; done), by repeat (first | exact Drawn0.refl _ | apply Drawn0.step)⟩
end Go.Proofs.YthijdjpipjbkbaaDoor.H
end
section
namespace Go.Proofs.YthijdjpipjbkbaaDoor.H
open Go.RowKit Go.Proofs.YthijdjpipjbkbaaDoorW.PrintWords Go.Proofs.YthijdjpipjbkbaaDoorW.PrintLast Go.Proofs.YthijdjpipjbkbaaDoorW.PrintMore
attribute [local go_sem] max2_int min2_int max_two min_two max_three min_three max_four min_four
set_option linter.unusedVariables false
set_option linter.unusedSimpArgs false
def arboristref11_Scan.l0 : Nat → ByteArray → List (S32) → Int → Option ((List (S32)) × Int × Int × ByteArray)
 | 0, _, _, _ => none
 | k + 1, x0, x4, x5 => if x5 < (x0.size : Int) then (if (x4.length : Int) ≥ 16384 then (some (([] : List (S32)), 4, x5, (⟨#[]⟩ : ByteArray))) else ((arboristref11_one.f k x0 x5).bind fun bt166 => (if bt166.2.2.2.2 = 0 then (if x4.length < 4398046511104 then ((arboristref11_blank.f k x0 (wrap64 (x5 + bt166.2.2.2.1))).bind fun t175 => (arboristref11_Scan.l0 k x0 (x4 ++ [(⟨bt166.1, bt166.2.1, bt166.2.2.1⟩ : S32)]) (wrap64 ((wrap64 (x5 + bt166.2.2.2.1)) + t175)))) else (none)) else (some (([] : List (S32)), bt166.2.2.2.2, x5, (⟨#[]⟩ : ByteArray)))))) else (some (x4, 0, 0, (⟨#[]⟩ : ByteArray)))
def arboristref11_Scan.f (k : Nat) (a0 : ByteArray) : Option ((List (S32)) × Int × Int × ByteArray) := if (a0.size : Int) > 65536 then (some (([] : List (S32)), 4, 0, (⟨#[]⟩ : ByteArray))) else ((arboristref11_blank.f k a0 0).bind fun t165 => (arboristref11_Scan.l0 k a0 ([] : List (S32)) t165))
set_option maxHeartbeats 8000000 in
set_option maxRecDepth 100000 in
theorem arboristref11_Scan.calls (k : Nat) (a0 : ByteArray) (r1 : List (S32)) (r2 : Int) (r3 : Int) (r4 : ByteArray) (w : World) (h : arboristref11_Scan.f k a0 = some (r1, r2, r3, r4)) :
  Calls Tryd.prog 10 #[.string a0] w fun e w' => ∃ v0_ : Value, e = .returned (.tuple #[v0_, .agg #[.int .i64 r2, .int .i64 r3, .string r4]]) ∧ Kd.R k32 32 w' w.heap.size (fun _ => True) v0_ r1 ∧ Below w.heap.size w w' := by
 (have hu26 := Tryd.underlying26); (have hu32 := Tryd.underlying32); (have HB := qM (Below.refl w.heap.size w)); (have H : (if (a0.size : Int) > 65536 then (some (([] : List (S32)), 4, 0, (⟨#[]⟩ : ByteArray))) else ((arboristref11_blank.f k a0 0).bind fun t165 => (arboristref11_Scan.l0 k a0 ([] : List (S32)) t165))) = some (r1, r2, r3, r4) := h); clear h; (by_cases c2 : (a0.size : Int) > 65536)
 ·rw [if_pos c2] at H
  (have c2b0 : decide (65536 < (a0.size : Int)) = true := decide_eq_true c2); (have c2b1 : decide (65536 < a0.size) = true := decide_eq_true (by omega)); clear c2; (simp only [Option.some.injEq, Prod.mk.injEq] at H); (obtain ⟨rfl, rfl, rfl, rfl⟩ := H); (go_enter Tryd.func10, Tryd.ntmps10)
  go_wp2_with (first | ((with_reducible refine gate_dst (N := 3) rfl ?_); refine box_event ?hg (N := 3) ?hd (cs := #[.int .i64 0, .int .i64 0, .string (⟨#[]⟩ : ByteArray)]) (t := 26) ?hr ?_; (case hd => rfl); (case hg => rfl); (case hr => first | (go_simp; done) | (go_simp; rfl)); intro gb164 hg w3 hbox hb; have n0_ := qM (qP qF hb); have n1_ := qM (hbox); have n2_ := qM ((by rw [hg]; exact (qZ qF) : w.heap.size ≤ gb164)); have n3_ := qM ((by rw [hg]; exact (qZ qF) : w.heap.size ≤ gb164)); clear HB; have HB := n0_; have BK164 := n1_; have GW164 := n2_; have GE164 := n3_; clear n0_ n1_ n2_ n3_; clear hb hbox hg; obtain ⟨hcz4_0, hcz4_1, hcz4_2, hfz4_0, hfz4_1, hfz4_2⟩ := bx3 BK164.out))
  refine bodyPost_ret (results_tc rfl _ _ gb164 26 #[.int .i64 4, .int .i64 0, .string (⟨#[]⟩ : ByteArray)] (0, 0) _ rfl (by (with_reducible repeat (first | refine qn ?_ _ | refine qd ?_ | refine qa ?_ _)); refine blk_put (cs := #[.int .i64 4, .int .i64 0, .string (⟨#[]⟩ : ByteArray)]) ?_ 2 _ rfl; (with_reducible repeat (first | refine qn ?_ _ | refine qd ?_ | refine qa ?_ _)); refine blk_put (cs := #[.int .i64 4, .int .i64 0, .string (⟨#[]⟩ : ByteArray)]) ?_ 1 _ rfl; (with_reducible repeat (first | refine qn ?_ _ | refine qd ?_ | refine qa ?_ _)); refine blk_put (cs := #[.int .i64 0, .int .i64 0, .string (⟨#[]⟩ : ByteArray)]) ?_ 0 _ rfl; (with_reducible repeat (first | refine qn ?_ _ | refine qd ?_ | refine qa ?_ _)); exact BK164.out) Tryd.underlying26 rfl (by kernel_rfl)) rfl ?_
  exact ⟨_, qE, by first | exact Kd.R_nil _ _ _ _ _ | exact Kd.N_nil _ _ _ _ _ | exact Kd.V_nil _ _ _ _ _ | exact Kd.Q_nil _ _ _ _ _ | exact Kd.S_nil _ _ _ _ _, qF⟩
 ·rw [if_neg c2] at H
  (have c2b0 : decide (65536 < (a0.size : Int)) = false := decide_eq_false c2); (have c2b1 : decide (65536 < a0.size) = false := decide_eq_false (by omega)); clear c2; (replace H := Option.bind_eq_some_iff.mp H); (obtain ⟨t165, A50, H⟩ := H); (replace H : (arboristref11_Scan.l0 k a0 ([] : List (S32)) t165) = some (r1, r2, r3, r4) := H); (have A5 := qM A50); clear A50; (have H' := qM H); clear H; (go_enter Tryd.func10, Tryd.ntmps10)
  go_wp2_with (first | ((with_reducible refine gate_dst (N := 3) rfl ?_); refine box_event ?hg (N := 3) ?hd (cs := #[.int .i64 0, .int .i64 0, .string (⟨#[]⟩ : ByteArray)]) (t := 26) ?hr ?_; (case hd => rfl); (case hg => rfl); (case hr => first | (go_simp; done) | (go_simp; rfl)); intro gb164 hg w6 hbox hb; have n0_ := qM (qP qF hb); have n1_ := qM (hbox); have n2_ := qM ((by rw [hg]; exact (qZ qF) : w.heap.size ≤ gb164)); have n3_ := qM ((by rw [hg]; exact (qZ qF) : w.heap.size ≤ gb164)); clear HB; have HB := n0_; have BK164 := n1_; have GW164 := n2_; have GE164 := n3_; clear n0_ n1_ n2_ n3_; clear hb hbox hg) | ((with_reducible refine gate_callee (f := 18) rfl ?_); refine goesL_ (some 14) rfl rfl Tryd.func18 (by kernel_rfl) rfl #[.string a0, .int .i64 0] rfl (by (try simp only [List.map_toArray, List.map_cons, List.map_nil]); first | done | rfl | (simp only [List.length_drop, List.length_take]; rfl)) ?_; (with_reducible refine (arboristref11_blank.calls k a0 0 t165 _ A5.out).mono ?_); rintro e w' ⟨rfl, ⟨nd, rfl⟩⟩; refine ⟨_, rfl, ?_⟩))
  go_loopg [4, 5] k (fun kq v4 v5 w' => ∃ (x4_1 : List (S32)) (x5_1 : Int) (x165000_1 : Int) (x165001_1 : Int) (x165002_1 : ByteArray), v5 = .int .i64 x5_1 ∧ Aside0 (arboristref11_Scan.l0 kq a0 x4_1 x5_1 = some (r1, r2, r3, r4)) ∧ Aside0 (kq ≤ k) ∧ Aside0 (Kd.R k32 32 w' w.heap.size (fun _ => True) v4 x4_1) ∧ Aside0 (w'.heap[gb164]? = some (.cells #[.int .i64 x165000_1, .int .i64 x165001_1, .string x165002_1] 26 (0, 0))) ∧ Aside0 (Below w.heap.size w w'))
  case atStart => exact ⟨(([] : List (S32))), (t165), (0), (0), ((⟨#[]⟩ : ByteArray)), qV, H', ⟨Nat.le_refl _⟩, ⟨by first | exact Kd.R_nil _ _ _ _ _ | exact Kd.N_nil _ _ _ _ _ | exact Kd.V_nil _ _ _ _ _ | exact Kd.Q_nil _ _ _ _ _ | exact Kd.S_nil _ _ _ _ _⟩, ⟨qK⟩, ⟨qF⟩⟩
  case round =>
   (clear H'); (try clear c1); (try clear c2); (try clear c2b0); (try clear c2b1); (try clear p2); (try clear hcz4_0 hcz4_1 hcz4_2); (try clear hfz4_0 hfz4_1 hfz4_2); (obtain ⟨x4_1, x5_1, x165000_1, x165001_1, x165002_1, rfl, HA, HK1, HO_4, BK164, HB⟩ := hrel)
   cases gk with
   | zero => exact absurd HA.out (by simp [arboristref11_Scan.l0])
   | succ k1 =>
    (have H := HA.out); clear HA; (simp only [arboristref11_Scan.l0] at H); (by_cases c7 : x5_1 < (a0.size : Int))
    ·rw [if_pos c7] at H
     (have c7b0 : decide (x5_1 < (a0.size : Int)) = true := decide_eq_true c7); clear c7; (by_cases c8 : (x4_1.length : Int) ≥ 16384)
     ·rw [if_pos c8] at H
      (have c8b0 : decide (16384 ≤ (x4_1.length : Int)) = true := decide_eq_true c8); (have c8b1 : decide (16384 ≤ x4_1.length) = true := decide_eq_true (by omega)); clear c8; (simp only [Option.some.injEq, Prod.mk.injEq] at H); (obtain ⟨rfl, rfl, rfl, rfl⟩ := H); (obtain ⟨Ao9, co9, eo9⟩ := Kd.R_slice HO_4.out); subst eo9; (obtain ⟨hcz10_0, hcz10_1, hcz10_2, hfz10_0, hfz10_1, hfz10_2⟩ := bx3 BK164.out); go_wp2
      refine bodyPost_ret (results_tc rfl _ _ gb164 26 #[.int .i64 4, .int .i64 x5_1, .string (⟨#[]⟩ : ByteArray)] (0, 0) _ rfl (by (with_reducible repeat (first | refine qn ?_ _ | refine qd ?_ | refine qa ?_ _)); refine blk_put (cs := #[.int .i64 4, .int .i64 x5_1, .string x165002_1]) ?_ 2 _ rfl; (with_reducible repeat (first | refine qn ?_ _ | refine qd ?_ | refine qa ?_ _)); refine blk_put (cs := #[.int .i64 4, .int .i64 x165001_1, .string x165002_1]) ?_ 1 _ rfl; (with_reducible repeat (first | refine qn ?_ _ | refine qd ?_ | refine qa ?_ _)); refine blk_put (cs := #[.int .i64 x165000_1, .int .i64 x165001_1, .string x165002_1]) ?_ 0 _ rfl; (with_reducible repeat (first | refine qn ?_ _ | refine qd ?_ | refine qa ?_ _)); exact BK164.out) Tryd.underlying26 rfl (by kernel_rfl)) rfl ?_
      exact ⟨_, qE, by first | exact Kd.R_nil _ _ _ _ _ | exact Kd.N_nil _ _ _ _ _ | exact Kd.V_nil _ _ _ _ _ | exact Kd.Q_nil _ _ _ _ _ | exact Kd.S_nil _ _ _ _ _, qF⟩
     ·rw [if_neg c8] at H
      (have c8b0 : decide (16384 ≤ (x4_1.length : Int)) = false := decide_eq_false c8); (have c8b1 : decide (16384 ≤ x4_1.length) = false := decide_eq_false (by omega)); clear c8; (replace H := Option.bind_eq_some_iff.mp H); (obtain ⟨⟨t166, t167, t168, t169, t170⟩, A110, H⟩ := H); (replace H : (if t170 = 0 then (if x4_1.length < 4398046511104 then ((arboristref11_blank.f k1 a0 (wrap64 (x5_1 + t169))).bind fun t175 => (arboristref11_Scan.l0 k1 a0 (x4_1 ++ [(⟨t166, t167, t168⟩ : S32)]) (wrap64 ((wrap64 (x5_1 + t169)) + t175)))) else (none)) else (some (([] : List (S32)), t170, x5_1, (⟨#[]⟩ : ByteArray)))) = some (r1, r2, r3, r4) := H); (have A11 := qM A110); clear A110; (by_cases c12 : t170 = 0)
      ·rw [if_pos c12] at H
       (have c12b0 : (t170 == 0) = true := beq_iff_eq.mpr c12); (have c12b1 : (t170 != 0) = false := bne_eq_false_iff_eq.mpr c12); clear c12; (by_cases c13 : x4_1.length < 4398046511104)
       ·rw [if_pos c13] at H
        (have LMc13 := qM c13); clear c13; (obtain ⟨y172, hy172⟩ : ∃ y_ : List (S32), y_ = (x4_1 ++ [(⟨t166, t167, t168⟩ : S32)]) := ⟨_, rfl⟩); (replace H : ((arboristref11_blank.f k1 a0 (wrap64 (x5_1 + t169))).bind fun t175 => (arboristref11_Scan.l0 k1 a0 y172 (wrap64 ((wrap64 (x5_1 + t169)) + t175)))) = some (r1, r2, r3, r4) := by first | (rw [hy172]; with_reducible exact H) | (have H2_ := (Option.bind_some _ _).symm.trans H; rw [hy172]; with_reducible exact H2_) | (have H2_ := (Option.bind_some _ _).symm.trans H; with_reducible exact H2_) | with_reducible exact H | (rw [hy172]; exact H) | exact H); (have Ny172 := qM hy172); clear hy172; (replace H := Option.bind_eq_some_iff.mp H); (obtain ⟨t175, A140, H⟩ := H); (replace H : (arboristref11_Scan.l0 k1 a0 y172 (wrap64 ((wrap64 (x5_1 + t169)) + t175))) = some (r1, r2, r3, r4) := H); (have A14 := qM A140); clear A140; (have H' := qM H); clear H; (obtain ⟨Ao15, co15, eo15⟩ := Kd.R_slice HO_4.out); subst eo15
        go_wp2_with (first | ((with_reducible refine gate_callee (f := 19) rfl ?_); refine goesL_ (some 27) rfl rfl Tryd.func19 (by kernel_rfl) rfl #[.string a0, .int .i64 x5_1] rfl (by (try simp only [List.map_toArray, List.map_cons, List.map_nil]); first | done | rfl | (simp only [List.length_drop, List.length_take]; rfl)) ?_; (with_reducible refine (arboristref11_one.calls k1 a0 x5_1 t166 t167 t168 t169 t170 _ A11.out).mono ?_); rintro e w16 ⟨rfl, hb⟩; refine ⟨_, rfl, ?_⟩; have n0_ := qM (Kd.R_below (by (with_reducible repeat (first | apply Kd.R_alloc | apply Kd.R_drewN | apply Kd.R_drew)); exact HO_4.out) hb); have n1_ := qM (qb (g := gb164) qK hb); have n2_ := qM (qP qF hb); clear HO_4; clear BK164; clear HB; have HO_4 := n0_; have BK164 := n1_; have HB := n2_; clear n0_ n1_ n2_; (try clear hb); (try clear hb2); (try clear hk); (try clear hi)) | ((with_reducible refine gate_dst (N := 6) rfl ?_); refine box_event ?hg (N := 6) ?hd (cs := #[.int .i64 0, .string (⟨#[]⟩ : ByteArray), .int .i64 0]) (t := 32) ?hr ?_; (case hd => rfl); (case hg => rfl); (case hr => first | (go_simp; done) | (go_simp; rfl)); intro gb171 hg w17 hbox hb; have n0_ := qM (Kd.R_below (Kd.R_elderB (by (with_reducible repeat (first | apply Kd.R_alloc | apply Kd.R_drewN | apply Kd.R_drew)); exact HO_4.out) gb171 (Nat.le_of_eq hg.symm)) hb); have n1_ := qM (qb (g := gb164) qK hb); have n2_ := qM (qP qF hb); have n3_ := qM (hbox); have n4_ := qM ((by rw [hg]; exact (qZ qF) : w.heap.size ≤ gb171)); have n5_ := qM ((by rw [hg]; exact (qZ qF) : w.heap.size ≤ gb171)); have n6_ := qM ((by rw [hg]; exact Nat.ne_of_lt (ql (g := gb164) qK) : gb164 ≠ gb171)); have n7_ := qM ((by rw [hg]; exact Nat.ne_of_gt (ql (g := gb164) qK) : gb171 ≠ gb164)); clear HO_4; clear BK164; clear HB; have HO_4 := n0_; have BK164 := n1_; have HB := n2_; have BK171 := n3_; have GW171 := n4_; have GE171 := n5_; have NB164_171 := n6_; have NB171_164 := n7_; clear n0_ n1_ n2_ n3_ n4_ n5_ n6_ n7_; clear hb hbox hg; have hnb18 := NB171_164.out; have hnc18 := NB164_171.out; obtain ⟨hcz19_0, hcz19_1, hcz19_2, hfz19_0, hfz19_1, hfz19_2⟩ := bx3 BK171.out) | ((with_reducible refine gate_builtin (b := .append) (xs := #[.tmp 36, .tmp 38]) rfl ?_); at_builtin; refine Kd.R_append k32 (w0 := w) w.heap.size rfl (.tmp 36) (.tmp 38) 23 32 (.agg #[(.int .i64 0), (.string ⟨#[]⟩), (.int .i64 0)]) 32 rfl Tryd.underlying23 info32 rfl (by decide) (by omega) (.slice Ao15 x4_1.length co15) x4_1 (⟨t166, t167, t168⟩ : S32) [.int .i64 t166, .string t167, .int .i64 t168] (fun k_ => k_ ≠ gb171) (fun _ => False) rfl (by first | (go_simp; done) | (go_simp; rfl)) ?aP (fun _ hk => hk.elim) ?aF ?aO ?aB ?aS ?aL ?_; (case aP => exact k32_mkM _ _ _ (⟨t166, t167, t168⟩ : S32)); (case aB => exact qF); (case aF => exact (fun k_ hk => Kd.freshB (g := gb171) (o := .cells #[.int .i64 t166, .string t167, .int .i64 t168] 32 (0, 0)) (by (with_reducible repeat (first | refine qn ?_ _ | refine qd ?_ | refine qa ?_ _)); refine blk_put (cs := #[.int .i64 t166, .string t167, .int .i64 0]) ?_ 2 _ rfl; (with_reducible repeat (first | refine qn ?_ _ | refine qd ?_ | refine qa ?_ _)); refine blk_put (cs := #[.int .i64 t166, .string (⟨#[]⟩ : ByteArray), .int .i64 0]) ?_ 1 _ rfl; (with_reducible repeat (first | refine qn ?_ _ | refine qd ?_ | refine qa ?_ _)); refine blk_put (cs := #[.int .i64 0, .string (⟨#[]⟩ : ByteArray), .int .i64 0]) ?_ 0 _ rfl; (with_reducible repeat (first | refine qn ?_ _ | refine qd ?_ | refine qa ?_ _)); exact BK171.out) k_ hk)); (case aO => exact (by (with_reducible repeat (first | apply Kd.R_alloc | apply Kd.R_drewN | apply Kd.R_drew)); exact Kd.R_mono (Kd.R_far (p := ⟨gb171, 2, none⟩) (Kd.R_far (p := ⟨gb171, 1, none⟩) (Kd.R_far (p := ⟨gb171, 0, none⟩) (Kd.R_mono HO_4.out (fun k_ hk => (⟨hk, hk.2⟩ : _ ∧ k_ ≠ gb171))) (fun _ hk => hk.2) (.int .i64 t166)) (fun _ hk => hk.2) (.string t167)) (fun _ hk => hk.2) (.int .i64 t168)) (fun _ hk => hk.1.2))); (case aS => exact (qZ qF)); (case aL => have := LMc13.out; omega); intro v173 w20 ho hb hg hat; rw [← Ny172.out] at ho; have n0_ := qM (blk_grown (g := gb164) (o := .cells #[.int .i64 x165000_1, .int .i64 x165001_1, .string x165002_1] 26 (0, 0)) (by (with_reducible repeat (first | refine qn ?_ _ | refine qd ?_ | refine qa ?_ _)); refine qf ?_ NB164_171.out _; (with_reducible repeat (first | refine qn ?_ _ | refine qd ?_ | refine qa ?_ _)); refine qf ?_ NB164_171.out _; (with_reducible repeat (first | refine qn ?_ _ | refine qd ?_ | refine qa ?_ _)); refine qf ?_ NB164_171.out _; (with_reducible repeat (first | refine qn ?_ _ | refine qd ?_ | refine qa ?_ _)); exact BK164.out) hg (Kd.R_ne HO_4.out BK164.out (by decide))); have n1_ := qM (blk_grown (g := gb171) (o := .cells #[.int .i64 t166, .string t167, .int .i64 t168] 32 (0, 0)) (by (with_reducible repeat (first | refine qn ?_ _ | refine qd ?_ | refine qa ?_ _)); refine blk_put (cs := #[.int .i64 t166, .string t167, .int .i64 0]) ?_ 2 _ rfl; (with_reducible repeat (first | refine qn ?_ _ | refine qd ?_ | refine qa ?_ _)); refine blk_put (cs := #[.int .i64 t166, .string (⟨#[]⟩ : ByteArray), .int .i64 0]) ?_ 1 _ rfl; (with_reducible repeat (first | refine qn ?_ _ | refine qd ?_ | refine qa ?_ _)); refine blk_put (cs := #[.int .i64 0, .string (⟨#[]⟩ : ByteArray), .int .i64 0]) ?_ 0 _ rfl; (with_reducible repeat (first | refine qn ?_ _ | refine qd ?_ | refine qa ?_ _)); exact BK171.out) hg (Kd.R_away HO_4.out (fun _ hk => hk.2))); have n2_ := qM (hb); have n3_ := qM (ho); clear BK164; clear BK171; clear HB; clear HO_4; have BK164 := n0_; have BK171 := n1_; have HB := n2_; have HO174 := n3_; clear n0_ n1_ n2_ n3_; clear ho hb hg hat) | ((with_reducible refine gate_callee (f := 18) rfl ?_); refine goesL_ (some 46) rfl rfl Tryd.func18 (by kernel_rfl) rfl #[.string a0, .int .i64 (wrap64 (x5_1 + t169))] rfl (by (try simp only [List.map_toArray, List.map_cons, List.map_nil]); first | done | rfl | (simp only [List.length_drop, List.length_take]; rfl)) ?_; (with_reducible refine (arboristref11_blank.calls k1 a0 (wrap64 (x5_1 + t169)) t175 _ A14.out).mono ?_); rintro e w' ⟨rfl, ⟨nd, rfl⟩⟩; refine ⟨_, rfl, ?_⟩))
        go_roundg k1
        case measure => have := HK1.out; omega
        case rel => exact ⟨(y172), (wrap64 ((wrap64 (x5_1 + t169)) + t175)), (x165000_1), (x165001_1), (x165002_1), qV, H', ⟨by have := HK1.out; omega⟩, ⟨by (with_reducible repeat (first | apply Kd.R_alloc | apply Kd.R_drewN | apply Kd.R_drew)); exact Kd.R_mono HO174.out (fun _ hk => trivial)⟩, ⟨qK⟩, ⟨qF⟩⟩
       ·rw [if_neg c13] at H
        exact absurd H (by simp)
      ·rw [if_neg c12] at H
       (have c12b0 : (t170 == 0) = false := beq_eq_false_iff_ne.mpr c12); (have c12b1 : (t170 != 0) = true := bne_iff_ne.mpr c12); (simp only [Option.some.injEq, Prod.mk.injEq] at H); (obtain ⟨rfl, rfl, rfl, rfl⟩ := H); (obtain ⟨Ao21, co21, eo21⟩ := Kd.R_slice HO_4.out); subst eo21
       go_wp2_with (first | ((with_reducible refine gate_callee (f := 19) rfl ?_); refine goesL_ (some 27) rfl rfl Tryd.func19 (by kernel_rfl) rfl #[.string a0, .int .i64 x5_1] rfl (by (try simp only [List.map_toArray, List.map_cons, List.map_nil]); first | done | rfl | (simp only [List.length_drop, List.length_take]; rfl)) ?_; (with_reducible refine (arboristref11_one.calls k1 a0 x5_1 t166 t167 t168 t169 t170 _ A11.out).mono ?_); rintro e w22 ⟨rfl, hb⟩; refine ⟨_, rfl, ?_⟩; have n0_ := qM (Kd.R_below (by (with_reducible repeat (first | apply Kd.R_alloc | apply Kd.R_drewN | apply Kd.R_drew)); exact HO_4.out) hb); have n1_ := qM (qb (g := gb164) qK hb); have n2_ := qM (qP qF hb); clear HO_4; clear BK164; clear HB; have HO_4 := n0_; have BK164 := n1_; have HB := n2_; clear n0_ n1_ n2_; (try clear hb); (try clear hb2); (try clear hk); (try clear hi)) | ((with_reducible refine gate_dst (N := 6) rfl ?_); refine box_event ?hg (N := 6) ?hd (cs := #[.int .i64 0, .string (⟨#[]⟩ : ByteArray), .int .i64 0]) (t := 32) ?hr ?_; (case hd => rfl); (case hg => rfl); (case hr => first | (go_simp; done) | (go_simp; rfl)); intro gb171 hg w23 hbox hb; have n0_ := qM (Kd.R_below (Kd.R_elderB (by (with_reducible repeat (first | apply Kd.R_alloc | apply Kd.R_drewN | apply Kd.R_drew)); exact HO_4.out) gb171 (Nat.le_of_eq hg.symm)) hb); have n1_ := qM (qb (g := gb164) qK hb); have n2_ := qM (qP qF hb); have n3_ := qM (hbox); have n4_ := qM ((by rw [hg]; exact (qZ qF) : w.heap.size ≤ gb171)); have n5_ := qM ((by rw [hg]; exact (qZ qF) : w.heap.size ≤ gb171)); have n6_ := qM ((by rw [hg]; exact Nat.ne_of_lt (ql (g := gb164) qK) : gb164 ≠ gb171)); have n7_ := qM ((by rw [hg]; exact Nat.ne_of_gt (ql (g := gb164) qK) : gb171 ≠ gb164)); clear HO_4; clear BK164; clear HB; have HO_4 := n0_; have BK164 := n1_; have HB := n2_; have BK171 := n3_; have GW171 := n4_; have GE171 := n5_; have NB164_171 := n6_; have NB171_164 := n7_; clear n0_ n1_ n2_ n3_ n4_ n5_ n6_ n7_; clear hb hbox hg; have hnb24 := NB171_164.out; have hnc24 := NB164_171.out; obtain ⟨hcz25_0, hcz25_1, hcz25_2, hfz25_0, hfz25_1, hfz25_2⟩ := bx3 BK171.out; obtain ⟨hcz26_0, hcz26_1, hcz26_2, hfz26_0, hfz26_1, hfz26_2⟩ := bx3 BK164.out))
       refine bodyPost_ret (results_tc rfl _ _ gb164 26 #[.int .i64 t170, .int .i64 x5_1, .string (⟨#[]⟩ : ByteArray)] (0, 0) _ rfl (by (with_reducible repeat (first | refine qn ?_ _ | refine qd ?_ | refine qa ?_ _)); refine blk_put (cs := #[.int .i64 t170, .int .i64 x5_1, .string x165002_1]) ?_ 2 _ rfl; (with_reducible repeat (first | refine qn ?_ _ | refine qd ?_ | refine qa ?_ _)); refine blk_put (cs := #[.int .i64 t170, .int .i64 x165001_1, .string x165002_1]) ?_ 1 _ rfl; (with_reducible repeat (first | refine qn ?_ _ | refine qd ?_ | refine qa ?_ _)); refine blk_put (cs := #[.int .i64 x165000_1, .int .i64 x165001_1, .string x165002_1]) ?_ 0 _ rfl; (with_reducible repeat (first | refine qn ?_ _ | refine qd ?_ | refine qa ?_ _)); refine qf ?_ NB164_171.out _; (with_reducible repeat (first | refine qn ?_ _ | refine qd ?_ | refine qa ?_ _)); refine qf ?_ NB164_171.out _; (with_reducible repeat (first | refine qn ?_ _ | refine qd ?_ | refine qa ?_ _)); refine qf ?_ NB164_171.out _; (with_reducible repeat (first | refine qn ?_ _ | refine qd ?_ | refine qa ?_ _)); exact BK164.out) Tryd.underlying26 rfl (by kernel_rfl)) rfl ?_
       exact ⟨_, qE, by first | exact Kd.R_nil _ _ _ _ _ | exact Kd.N_nil _ _ _ _ _ | exact Kd.V_nil _ _ _ _ _ | exact Kd.Q_nil _ _ _ _ _ | exact Kd.S_nil _ _ _ _ _, qF⟩
    ·rw [if_neg c7] at H
     (have c7b0 : decide (x5_1 < (a0.size : Int)) = false := decide_eq_false c7); clear c7; (simp only [Option.some.injEq, Prod.mk.injEq] at H); (obtain ⟨rfl, rfl, rfl, rfl⟩ := H); (obtain ⟨hcz27_0, hcz27_1, hcz27_2, hfz27_0, hfz27_1, hfz27_2⟩ := bx3 BK164.out); go_wp2
     refine bodyPost_ret (results_tc rfl _ _ gb164 26 #[.int .i64 0, .int .i64 0, .string (⟨#[]⟩ : ByteArray)] (0, 0) _ rfl (by (with_reducible repeat (first | refine qn ?_ _ | refine qd ?_ | refine qa ?_ _)); refine blk_put (cs := #[.int .i64 0, .int .i64 0, .string x165002_1]) ?_ 2 _ rfl; (with_reducible repeat (first | refine qn ?_ _ | refine qd ?_ | refine qa ?_ _)); refine blk_put (cs := #[.int .i64 0, .int .i64 x165001_1, .string x165002_1]) ?_ 1 _ rfl; (with_reducible repeat (first | refine qn ?_ _ | refine qd ?_ | refine qa ?_ _)); refine blk_put (cs := #[.int .i64 x165000_1, .int .i64 x165001_1, .string x165002_1]) ?_ 0 _ rfl; (with_reducible repeat (first | refine qn ?_ _ | refine qd ?_ | refine qa ?_ _)); exact BK164.out) Tryd.underlying26 rfl (by kernel_rfl)) rfl ?_
     exact ⟨_, qE, by (with_reducible repeat (first | apply Kd.R_alloc | apply Kd.R_drewN | apply Kd.R_drew)); exact Kd.R_mono (Kd.R_far (p := ⟨gb164, 2, none⟩) (Kd.R_far (p := ⟨gb164, 1, none⟩) (Kd.R_far (p := ⟨gb164, 0, none⟩) (Kd.R_types HO_4.out BK164.out (by decide)) (fun _ hk => hk.2) (.int .i64 0)) (fun _ hk => hk.2) (.int .i64 0)) (fun _ hk => hk.2) (.string (⟨#[]⟩ : ByteArray))) (fun _ hk => trivial), qF⟩
theorem eqA26 (d : Nat) (w : World) (x0 y0 : Int) (x1 y1 : Int) (x2 y2 : ByteArray) :
  (Op.equalIn (d + 2) 26 (.agg #[.int .i64 x0, .int .i64 x1, .string x2]) (.agg #[.int .i64 y0, .int .i64 y1, .string y2])).run Tryd.prog w = .ok (x0 == y0 && (x1 == y1 && (x2.toList == y2.toList))) w := by
 (refine eqA_of Tryd.underlying26 (by kernel_rfl) ?_); (refine eqf_cons (by rfl) (by go_simp; rfl) (by go_simp; rfl) (by go_simp) ?_); (refine eqf_cons (by rfl) (by go_simp; rfl) (by go_simp; rfl) (by go_simp) ?_); (exact eqf_last (by rfl) (by go_simp; rfl) (by go_simp; rfl) (by go_simp))
theorem eqA32 (d : Nat) (w : World) (x0 y0 : Int) (x1 y1 : ByteArray) (x2 y2 : Int) :
  (Op.equalIn (d + 2) 32 (.agg #[.int .i64 x0, .string x1, .int .i64 x2]) (.agg #[.int .i64 y0, .string y1, .int .i64 y2])).run Tryd.prog w = .ok (x0 == y0 && (x1.toList == y1.toList && (x2 == y2))) w := by
 (refine eqA_of Tryd.underlying32 (by kernel_rfl) ?_); (refine eqf_cons (by rfl) (by go_simp; rfl) (by go_simp; rfl) (by go_simp) ?_); (refine eqf_cons (by rfl) (by go_simp; rfl) (by go_simp; rfl) (by go_simp) ?_); (exact eqf_last (by rfl) (by go_simp; rfl) (by go_simp; rfl) (by go_simp))
def arboristlaw11_same.l0 : Nat → List (S32) → List (S32) → Int → Option (Bool)
 | 0, _, _, _ => none
 | k + 1, x0, x1, x5 => if x5 < (x0.length : Int) then (if 0 ≤ x5 then (if x5 < (x1.length : Int) then (if ((rd_T32 x0 x5).f0) = ((rd_T32 x1 x5).f0) then (if ((rd_T32 x0 x5).f1).toList = ((rd_T32 x1 x5).f1).toList then (arboristlaw11_same.l0 k x0 x1 (wrap64 (x5 + 1))) else (some false)) else (some false)) else (none)) else (none)) else (some true)
def arboristlaw11_same.f (k : Nat) (l0 : List (S32)) (l1 : List (S32)) : Option (Bool) := if (l0.length : Int) = (l1.length : Int) then (arboristlaw11_same.l0 k l0 l1 0) else (some false)
set_option maxHeartbeats 8000000 in
set_option maxRecDepth 100000 in
theorem arboristlaw11_same.calls (k : Nat) (A0 : Option Addr) (c0 : Nat) (l0 : List (S32)) (A1 : Option Addr) (c1 : Nat) (l1 : List (S32)) (r : Bool) (w : World) (hr0 : Kd.C k32 w A0 l0.length l0) (hc0 : l0.length ≤ c0) (hr1 : Kd.C k32 w A1 l1.length l1) (hc1 : l1.length ≤ c1) (h : arboristlaw11_same.f k l0 l1 = some r) :
  Calls Tryd.prog 11 #[.slice A0 l0.length c0, .slice A1 l1.length c1] w fun e w' => e = .returned (.bool r) ∧ Drawn0 w w' := by
 (have HR0 := qM hr0); (have HC0 := qM hc0); clear hr0 hc0; (have HR1 := qM hr1); (have HC1 := qM hc1); clear hr1 hc1; (have H : (if (l0.length : Int) = (l1.length : Int) then (arboristlaw11_same.l0 k l0 l1 0) else (some false)) = some r := h); clear h; (by_cases c3 : (l0.length : Int) = (l1.length : Int))
 ·rw [if_pos c3] at H
  (have c3b0 : ((l0.length : Int) == (l1.length : Int)) = true := beq_iff_eq.mpr c3); (have c3b1 : ((l0.length : Int) != (l1.length : Int)) = false := bne_eq_false_iff_eq.mpr c3); (have c3b2 : (l0.length == l1.length) = true := by first | simpa using c3 | (simp at c3 ⊢; omega)); clear c3; (have H' := qM H); clear H; (go_enter Tryd.func11, Tryd.ntmps11); go_wp2; (repeat (go_quiet (fail); try go_wp2)); (go_loopg [5] k (fun kq v5 w' => ∃ (x5_1 : Int), v5 = .int .i64 x5_1 ∧ Aside0 (arboristlaw11_same.l0 kq l0 l1 x5_1 = some r) ∧ Aside0 (kq ≤ k) ∧ Drawn0 w w'))
  case atStart => exact ⟨(0), qV, H', ⟨Nat.le_refl _⟩, by repeat (first | exact Drawn0.refl _ | apply Drawn0.step)⟩
  case round =>
   (clear H'); (try clear c1); (try clear p2); (try clear c3); (try clear c3b0); (try clear c3b1); (try clear c3b2); (obtain ⟨x5_1, rfl, HA, HK1, ⟨m1, rfl⟩⟩ := hrel)
   cases gk with
   | zero => exact absurd HA.out (by simp [arboristlaw11_same.l0])
   | succ k1 =>
    (have H := HA.out); clear HA; (simp only [arboristlaw11_same.l0] at H); (by_cases c4 : x5_1 < (l0.length : Int))
    ·rw [if_pos c4] at H
     (have c4b0 : decide (x5_1 < (l0.length : Int)) = true := decide_eq_true c4); clear c4; (by_cases c5 : 0 ≤ x5_1)
     ·rw [if_pos c5] at H
      (have c5b0 : decide (0 ≤ x5_1) = true := decide_eq_true c5); clear c5; (by_cases c6 : x5_1 < (l1.length : Int))
      ·rw [if_pos c6] at H
       (have c6b0 : decide (x5_1 < (l1.length : Int)) = true := decide_eq_true c6); clear c6; (by_cases c7 : ((rd_T32 l0 x5_1).f0) = ((rd_T32 l1 x5_1).f0))
       ·rw [if_pos c7] at H
        (have c7b0 : (((rd_T32 l0 x5_1).f0) == ((rd_T32 l1 x5_1).f0)) = true := beq_iff_eq.mpr c7); (have c7b1 : (((rd_T32 l0 x5_1).f0) != ((rd_T32 l1 x5_1).f0)) = false := bne_eq_false_iff_eq.mpr c7); clear c7; (by_cases c8 : ((rd_T32 l0 x5_1).f1).toList = ((rd_T32 l1 x5_1).f1).toList)
        ·rw [if_pos c8] at H
         (have c8b0 : (((rd_T32 l0 x5_1).f1).toList == ((rd_T32 l1 x5_1).f1).toList) = true := beq_iff_eq.mpr c8); (have c8b1 : (((rd_T32 l0 x5_1).f1).toList != ((rd_T32 l1 x5_1).f1).toList) = false := bne_eq_false_iff_eq.mpr c8); clear c8; (have H' := qM H); clear H; (have p177 : 0 ≤ (x5_1 : Int) := qo qX); (have q177 : x5_1 < (l0.length : Int) := qo qX); (obtain ⟨ad177, e177, hx177_0, hx177_1, hx177_2⟩ := at_T32 HR0.out x5_1 p177 q177)
         cases e177
         (replace p177 := eq_true p177); (replace q177 := eq_true q177); (have p178 : 0 ≤ (x5_1 : Int) := qo qX); (have q178 : x5_1 < (l1.length : Int) := qo qX); (obtain ⟨ad178, e178, hx178_0, hx178_1, hx178_2⟩ := at_T32 HR1.out x5_1 p178 q178)
         cases e178
         (replace p178 := eq_true p178); (replace q178 := eq_true q178); (have p179 : 0 ≤ (x5_1 : Int) := qo qX); (have q179 : x5_1 < (l0.length : Int) := qo qX); (obtain ⟨ad179, e179, hx179_0, hx179_1, hx179_2⟩ := at_T32 HR0.out x5_1 p179 q179); (obtain rfl : ad177 = ad179 := (by injection e179)); (replace p179 := eq_true p179); (replace q179 := eq_true q179); (have p180 : 0 ≤ (x5_1 : Int) := qo qX); (have q180 : x5_1 < (l1.length : Int) := qo qX); (obtain ⟨ad180, e180, hx180_0, hx180_1, hx180_2⟩ := at_T32 HR1.out x5_1 p180 q180); (obtain rfl : ad178 = ad180 := (by injection e180)); (replace p180 := eq_true p180); (replace q180 := eq_true q180); go_wp2; (repeat (go_quiet (fail); try go_wp2)); (go_roundg k1)
         case measure => have := HK1.out; omega
         case rel => exact ⟨(wrap64 (x5_1 + 1)), qV, H', ⟨by have := HK1.out; omega⟩, by repeat (first | exact Drawn0.refl _ | apply Drawn0.step)⟩
        ·rw [if_neg c8] at H
         (have c8b0 : (((rd_T32 l0 x5_1).f1).toList == ((rd_T32 l1 x5_1).f1).toList) = false := beq_eq_false_iff_ne.mpr c8); (have c8b1 : (((rd_T32 l0 x5_1).f1).toList != ((rd_T32 l1 x5_1).f1).toList) = true := bne_iff_ne.mpr c8); (obtain rfl := Option.some.inj H); (have p177 : 0 ≤ (x5_1 : Int) := qo qX); (have q177 : x5_1 < (l0.length : Int) := qo qX); (obtain ⟨ad177, e177, hx177_0, hx177_1, hx177_2⟩ := at_T32 HR0.out x5_1 p177 q177)
         cases e177
         (replace p177 := eq_true p177); (replace q177 := eq_true q177); (have p178 : 0 ≤ (x5_1 : Int) := qo qX); (have q178 : x5_1 < (l1.length : Int) := qo qX); (obtain ⟨ad178, e178, hx178_0, hx178_1, hx178_2⟩ := at_T32 HR1.out x5_1 p178 q178)
         cases e178
         (replace p178 := eq_true p178); (replace q178 := eq_true q178); (have p179 : 0 ≤ (x5_1 : Int) := qo qX); (have q179 : x5_1 < (l0.length : Int) := qo qX); (obtain ⟨ad179, e179, hx179_0, hx179_1, hx179_2⟩ := at_T32 HR0.out x5_1 p179 q179); (obtain rfl : ad177 = ad179 := (by injection e179)); (replace p179 := eq_true p179); (replace q179 := eq_true q179); (have p180 : 0 ≤ (x5_1 : Int) := qo qX); (have q180 : x5_1 < (l1.length : Int) := qo qX); (obtain ⟨ad180, e180, hx180_0, hx180_1, hx180_2⟩ := at_T32 HR1.out x5_1 p180 q180); (obtain rfl : ad178 = ad180 := (by injection e180)); (replace p180 := eq_true p180); (replace q180 := eq_true q180); go_wp2; (repeat (go_quiet (fail); try go_wp2)); (go_ret); (exact ⟨qV, by repeat (first | exact Drawn0.refl _ | apply Drawn0.step)⟩)
       ·rw [if_neg c7] at H
        (have c7b0 : (((rd_T32 l0 x5_1).f0) == ((rd_T32 l1 x5_1).f0)) = false := beq_eq_false_iff_ne.mpr c7); (have c7b1 : (((rd_T32 l0 x5_1).f0) != ((rd_T32 l1 x5_1).f0)) = true := bne_iff_ne.mpr c7); (obtain rfl := Option.some.inj H); (have p177 : 0 ≤ (x5_1 : Int) := qo qX); (have q177 : x5_1 < (l0.length : Int) := qo qX); (obtain ⟨ad177, e177, hx177_0, hx177_1, hx177_2⟩ := at_T32 HR0.out x5_1 p177 q177)
        cases e177
        (replace p177 := eq_true p177); (replace q177 := eq_true q177); (have p178 : 0 ≤ (x5_1 : Int) := qo qX); (have q178 : x5_1 < (l1.length : Int) := qo qX); (obtain ⟨ad178, e178, hx178_0, hx178_1, hx178_2⟩ := at_T32 HR1.out x5_1 p178 q178)
        cases e178
        (replace p178 := eq_true p178); (replace q178 := eq_true q178); go_wp2; (repeat (go_quiet (fail); try go_wp2)); (go_ret); (exact ⟨qV, by repeat (first | exact Drawn0.refl _ | apply Drawn0.step)⟩)
      ·rw [if_neg c6] at H
       exact absurd H (by simp)
     ·rw [if_neg c5] at H
      exact absurd H (by simp)
    ·rw [if_neg c4] at H
     (have c4b0 : decide (x5_1 < (l0.length : Int)) = false := decide_eq_false c4); clear c4; (obtain rfl := Option.some.inj H); go_wp2; (repeat (go_quiet (fail); try go_wp2)); (go_ret); (exact ⟨qV, by repeat (first | exact Drawn0.refl _ | apply Drawn0.step)⟩)
 ·rw [if_neg c3] at H
  (have c3b0 : ((l0.length : Int) == (l1.length : Int)) = false := beq_eq_false_iff_ne.mpr c3); (have c3b1 : ((l0.length : Int) != (l1.length : Int)) = true := bne_iff_ne.mpr c3); (have c3b2 : (l0.length == l1.length) = false := by first | simpa using c3 | (simp at c3 ⊢; omega)); (obtain rfl := Option.some.inj H); (go_enter Tryd.func11, Tryd.ntmps11); go_wp2; (repeat (go_quiet (fail); try go_wp2)); (go_ret); (exact ⟨qV, by repeat (first | exact Drawn0.refl _ | apply Drawn0.step)⟩)
end Go.Proofs.YthijdjpipjbkbaaDoor.H
end
