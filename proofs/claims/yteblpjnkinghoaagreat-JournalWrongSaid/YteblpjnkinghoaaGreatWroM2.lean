/- Lemmas and contracts (part 2) on which the claim's last text leans: The law JournalWrong holds of every input: it returns true, and its arguments read behind the call as they read before. Conditions: none. -/
import Derived.Test.YteblpjnkinghoaaGreatWroM1
set_option linter.unusedVariables false
set_option linter.unusedSimpArgs false
namespace Go.Proofs.YteblpjnkinghoaaGreat.J
open Go.RowKit Go.Proofs.YteblpjnkinghoaaGreatW.PrintWords Go.Proofs.YteblpjnkinghoaaGreatW.PrintLast Go.Proofs.YteblpjnkinghoaaGreatW.PrintMore
attribute [local go_sem] max2_int min2_int max_two min_two max_three min_three max_four min_four   -- for this text's walks alone
set_option linter.unusedVariables false
set_option linter.unusedSimpArgs false
/-! ### ringworkref25_since: function 32 -/
mutual
def ringworkref25_since.l0 : Nat → List (S43) → Int → Int → Int → Int → Option (Int)
  | 0, _, _, _, _, _ => none
  | k + 1, x0, x1, x2, x7, x8 => if x8 < x1 then (if 0 ≤ x8 then (if x8 < (x0.length : Int) then (if ((rd_T43 x0 x8).f1) = x2 then (ringworkref25_since.j1 k x0 x1 x2 x7 x8 (((rd_T43 x0 x8).f0) == 6)) else (ringworkref25_since.j1 k x0 x1 x2 x7 x8 true)) else (none)) else (none)) else (some x7)
def ringworkref25_since.j1 : Nat → List (S43) → Int → Int → Int → Int → Bool → Option (Int)
  | 0, _, _, _, _, _, _ => none
  | k + 1, x0, x1, x2, x7, x8, x28 => if x28 = true then (ringworkref25_since.l0 k x0 x1 x2 x7 (wrap64 (x8 + 1))) else (if 0 ≤ x8 then (if x8 < (x0.length : Int) then (if ((rd_T43 x0 x8).f0) = 1 then (ringworkref25_since.j2 k x0 x1 x2 x7 x8 ((rd_T43 x0 x8).f0) (((rd_T43 x0 x8).f0) == 1)) else (ringworkref25_since.j2 k x0 x1 x2 x7 x8 ((rd_T43 x0 x8).f0) (((rd_T43 x0 x8).f0) == 4))) else (none)) else (none))
def ringworkref25_since.j2 : Nat → List (S43) → Int → Int → Int → Int → Int → Bool → Option (Int)
  | 0, _, _, _, _, _, _, _ => none
  | k + 1, x0, x1, x2, x7, x8, x33, x34 => if x34 = true then (ringworkref25_since.l0 k x0 x1 x2 x8 (wrap64 (x8 + 1))) else (if x33 = 5 then (ringworkref25_since.l0 k x0 x1 x2 (-1) (wrap64 (x8 + 1))) else (if x33 = 7 then (ringworkref25_since.l0 k x0 x1 x2 (-1) (wrap64 (x8 + 1))) else (ringworkref25_since.l0 k x0 x1 x2 x7 (wrap64 (x8 + 1)))))
end
def ringworkref25_since.f (k : Nat) (l0 : List (S43)) (a1 : Int) (a2 : Int) : Option (Int) := ringworkref25_since.l0 k l0 a1 a2 (-1) 0
set_option maxHeartbeats 8000000 in
set_option maxRecDepth 100000 in
theorem ringworkref25_since.calls (k : Nat) (A0 : Option Addr) (c0 : Nat) (l0 : List (S43)) (a1 : Int) (a2 : Int) (r : Int) (w : World) (hr0 : Kd.C k43 w A0 l0.length l0) (hc0 : l0.length ≤ c0) (h : ringworkref25_since.f k l0 a1 a2 = some r) :
    Calls Tryz.prog 32 #[.slice A0 l0.length c0, .int .i64 a1, .int .i64 a2] w fun e w' => e = .returned (.int .i64 r) ∧ Drawn0 w w' := by
  have HR0 := Aside0.mk hr0
  have HC0 := Aside0.mk hc0
  clear hr0 hc0
  have H : (ringworkref25_since.l0 k l0 a1 a2 (-1) 0) = some r := h
  clear h
  have H' := Aside0.mk H
  clear H
  go_enter Tryz.func32, Tryz.ntmps32
  go_wp2
  go_loopg [7, 8] k (fun kq v7 v8 w' => ∃ (x7_1 : Int) (x8_1 : Int), v7 = .int .i64 x7_1 ∧ v8 = .int .i64 x8_1 ∧ Aside0 (ringworkref25_since.l0 kq l0 a1 a2 x7_1 x8_1 = some r) ∧ Aside0 (kq ≤ k) ∧ Drawn0 w w')
  case atStart => exact ⟨((-1)), (0), (by first | rfl | (simp; done) | (simp [*]; done)), (by first | rfl | (simp; done) | (simp [*]; done)), H', ⟨Nat.le_refl _⟩, by repeat (first | exact Drawn0.refl _ | apply Drawn0.step)⟩
  case round =>
    clear H'
    try clear p2
    try clear c3
    obtain ⟨x7_1, x8_1, rfl, rfl, HA, HK1, ⟨m1, rfl⟩⟩ := hrel
    cases gk with
    | zero => exact absurd HA.out (by simp [ringworkref25_since.l0])
    | succ k1 =>
      have H := HA.out
      clear HA
      simp only [ringworkref25_since.l0] at H
      by_cases c4 : x8_1 < a1
      · rw [if_pos c4] at H
        have c4b0 : decide (x8_1 < a1) = true := decide_eq_true c4
        clear c4
        have HC5 := Aside0.mk H
        clear H
        go_upto_region 5 with (fail)
        go_cut [28] (fun v28 wc => ∃ (kq : Nat) (x28_4 : Bool), v28 = .bool x28_4 ∧ Aside0 (ringworkref25_since.j1 kq l0 a1 a2 x7_1 x8_1 x28_4 = some r) ∧ Aside0 (kq ≤ k1) ∧ Drawn0 w wc)
        case first =>
          have H := HC5.out
          clear HC5
          by_cases c6 : 0 ≤ x8_1
          · rw [if_pos c6] at H
            have c6b0 : decide (0 ≤ x8_1) = true := decide_eq_true c6
            clear c6
            (first | rw [c6b0] | (simp only [i64_w, i32_w]; rw [c6b0]) | skip)
            by_cases c7 : x8_1 < (l0.length : Int)
            · rw [if_pos c7] at H
              have c7b0 : decide (x8_1 < (l0.length : Int)) = true := decide_eq_true c7
              clear c7
              by_cases c8 : ((rd_T43 l0 x8_1).f1) = a2
              · rw [if_pos c8] at H
                have c8b0 : (((rd_T43 l0 x8_1).f1) == a2) = true := beq_iff_eq.mpr c8
                have c8b1 : (((rd_T43 l0 x8_1).f1) != a2) = false := bne_eq_false_iff_eq.mpr c8
                clear c8
                have H' := Aside0.mk H
                clear H
                have p116 : 0 ≤ (x8_1 : Int) := of_decide_eq_true (by first | (with_reducible assumption) | assumption)
                have q116 : x8_1 < (l0.length : Int) := of_decide_eq_true (by first | (with_reducible assumption) | assumption)
                obtain ⟨ad116, e116, hx116_0, hx116_1, hx116_2, hx116_3, hx116_4⟩ := at_T43 HR0.out x8_1 p116 q116
                cases e116
                replace p116 := eq_true p116
                replace q116 := eq_true q116
                have p117 : 0 ≤ (x8_1 : Int) := of_decide_eq_true (by first | (with_reducible assumption) | assumption)
                have q117 : x8_1 < (l0.length : Int) := of_decide_eq_true (by first | (with_reducible assumption) | assumption)
                obtain ⟨ad117, e117, hx117_0, hx117_1, hx117_2, hx117_3, hx117_4⟩ := at_T43 HR0.out x8_1 p117 q117
                obtain rfl : ad116 = ad117 := (by injection e117)
                replace p117 := eq_true p117
                replace q117 := eq_true q117
                go_wp2
                go_meet
                case rel => exact ⟨_, ((((rd_T43 l0 x8_1).f0) == 6)), (by first | rfl | (simp; done) | (simp [*]; done)), H', ⟨by have := HK1.out; first | omega | exact Nat.le_refl _⟩, by repeat (first | exact Drawn0.refl _ | apply Drawn0.step)⟩
              · rw [if_neg c8] at H
                have c8b0 : (((rd_T43 l0 x8_1).f1) == a2) = false := beq_eq_false_iff_ne.mpr c8
                have c8b1 : (((rd_T43 l0 x8_1).f1) != a2) = true := bne_iff_ne.mpr c8
                have H' := Aside0.mk H
                clear H
                have p116 : 0 ≤ (x8_1 : Int) := of_decide_eq_true (by first | (with_reducible assumption) | assumption)
                have q116 : x8_1 < (l0.length : Int) := of_decide_eq_true (by first | (with_reducible assumption) | assumption)
                obtain ⟨ad116, e116, hx116_0, hx116_1, hx116_2, hx116_3, hx116_4⟩ := at_T43 HR0.out x8_1 p116 q116
                cases e116
                replace p116 := eq_true p116
                replace q116 := eq_true q116
                go_wp2
                go_meet
                case rel => exact ⟨_, (true), (by first | rfl | (simp; done) | (simp [*]; done)), H', ⟨by have := HK1.out; first | omega | exact Nat.le_refl _⟩, by repeat (first | exact Drawn0.refl _ | apply Drawn0.step)⟩
            · rw [if_neg c7] at H
              exact absurd H (by simp)
          · rw [if_neg c6] at H
            exact absurd H (by simp)
        case rest =>
          clear HC5
          try clear p1
          try clear q1
          try clear hx1
          try clear p2
          try clear c3
          try clear c4
          try clear c4b0
          try clear c6
          try clear c6b0
          try clear c7
          try clear c7b0
          try clear c8
          try clear c8b0
          try clear c8b1
          try clear hx116_0
          try clear hx116_1
          try clear hx116_2
          try clear hx116_3
          try clear hx116_4
          try clear hx117_0
          try clear hx117_1
          try clear hx117_2
          try clear hx117_3
          try clear hx117_4
          try clear p116
          try clear p117
          try clear p2
          try clear q116
          try clear q117
          obtain ⟨kq, x28_4, rfl, HA, HJ4, ⟨mc4, rfl⟩⟩ := hcut
          cases kq with
          | zero => exact absurd HA.out (by simp [ringworkref25_since.j1])
          | succ kj4 =>
            have H := HA.out
            clear HA
            simp only [ringworkref25_since.j1] at H
            by_cases c9 : x28_4 = true
            · subst c9
              have H1 : (ringworkref25_since.l0 kj4 l0 a1 a2 x7_1 (wrap64 (x8_1 + 1))) = some r := by rw [if_pos rfl] at H; exact H
              clear H
              have H := H1
              clear H1
              have H' := Aside0.mk H
              clear H
              go_wp2
              go_roundg kj4
              case measure => have := HK1.out; have := HJ4.out; omega
              case rel => exact ⟨(x7_1), (wrap64 (x8_1 + 1)), (by first | rfl | (simp; done) | (simp [*]; done)), (by first | rfl | (simp; done) | (simp [*]; done)), H', ⟨by have := HK1.out; have := HJ4.out; omega⟩, by repeat (first | exact Drawn0.refl _ | apply Drawn0.step)⟩
            · replace c9 := Bool.eq_false_iff.mpr c9
              subst c9
              have H1 : (if 0 ≤ x8_1 then (if x8_1 < (l0.length : Int) then (if ((rd_T43 l0 x8_1).f0) = 1 then (ringworkref25_since.j2 kj4 l0 a1 a2 x7_1 x8_1 ((rd_T43 l0 x8_1).f0) (((rd_T43 l0 x8_1).f0) == 1)) else (ringworkref25_since.j2 kj4 l0 a1 a2 x7_1 x8_1 ((rd_T43 l0 x8_1).f0) (((rd_T43 l0 x8_1).f0) == 4))) else (none)) else (none)) = some r := by rw [if_neg (show ¬ (false = true) by decide)] at H; exact H
              clear H
              have H := H1
              clear H1
              by_cases c10 : 0 ≤ x8_1
              · rw [if_pos c10] at H
                have c10b0 : decide (0 ≤ x8_1) = true := decide_eq_true c10
                clear c10
                by_cases c11 : x8_1 < (l0.length : Int)
                · rw [if_pos c11] at H
                  have c11b0 : decide (x8_1 < (l0.length : Int)) = true := decide_eq_true c11
                  clear c11
                  have HC12 := Aside0.mk H
                  clear H
                  have p118 : 0 ≤ (x8_1 : Int) := of_decide_eq_true (by first | (with_reducible assumption) | assumption)
                  have q118 : x8_1 < (l0.length : Int) := of_decide_eq_true (by first | (with_reducible assumption) | assumption)
                  obtain ⟨ad118, e118, hx118_0, hx118_1, hx118_2, hx118_3, hx118_4⟩ := at_T43 HR0.out x8_1 p118 q118
                  cases e118
                  replace p118 := eq_true p118
                  replace q118 := eq_true q118
                  go_upto_if 34 with (fail)
                  go_cut [34] (fun v34 wc => ∃ (kq : Nat) (x34_11 : Bool), v34 = .bool x34_11 ∧ Aside0 (ringworkref25_since.j2 kq l0 a1 a2 x7_1 x8_1 ((rd_T43 l0 x8_1).f0) x34_11 = some r) ∧ Aside0 (kq ≤ kj4) ∧ Drawn0 w wc)
                  case first =>
                    have H := HC12.out
                    clear HC12
                    by_cases c13 : ((rd_T43 l0 x8_1).f0) = 1
                    · rw [if_pos c13] at H
                      have c13b0 : (((rd_T43 l0 x8_1).f0) == 1) = true := beq_iff_eq.mpr c13
                      have c13b1 : (((rd_T43 l0 x8_1).f0) != 1) = false := bne_eq_false_iff_eq.mpr c13
                      clear c13
                      (first | rw [c13b0] | (simp only [i64_w, i32_w]; rw [c13b0]) | skip)
                      have H' := Aside0.mk H
                      clear H
                      go_wp2
                      go_meet
                      case rel => exact ⟨_, ((((rd_T43 l0 x8_1).f0) == 1)), (by first | rfl | (simp; done) | (simp [*]; done)), H', ⟨by have := HK1.out; have := HJ4.out; first | omega | exact Nat.le_refl _⟩, by repeat (first | exact Drawn0.refl _ | apply Drawn0.step)⟩
                    · rw [if_neg c13] at H
                      have c13b0 : (((rd_T43 l0 x8_1).f0) == 1) = false := beq_eq_false_iff_ne.mpr c13
                      have c13b1 : (((rd_T43 l0 x8_1).f0) != 1) = true := bne_iff_ne.mpr c13
                      (first | rw [c13b0] | (simp only [i64_w, i32_w]; rw [c13b0]) | skip)
                      have H' := Aside0.mk H
                      clear H
                      go_wp2
                      go_meet
                      case rel => exact ⟨_, ((((rd_T43 l0 x8_1).f0) == 4)), (by first | rfl | (simp; done) | (simp [*]; done)), H', ⟨by have := HK1.out; have := HJ4.out; first | omega | exact Nat.le_refl _⟩, by repeat (first | exact Drawn0.refl _ | apply Drawn0.step)⟩
                  case rest =>
                    clear HC12
                    try clear c1
                    try clear p1
                    try clear q1
                    try clear hx1
                    try clear p2
                    try clear c3
                    try clear c4
                    try clear c4b0
                    try clear c6
                    try clear c6b0
                    try clear p6
                    try clear c7
                    try clear c7b0
                    try clear c8
                    try clear c8b0
                    try clear c8b1
                    try clear c9
                    try clear c10
                    try clear c10b0
                    try clear c11
                    try clear c11b0
                    try clear p11
                    try clear q11
                    try clear hx11
                    try clear c13
                    try clear c13b0
                    try clear c13b1
                    try clear hx116_0
                    try clear hx116_1
                    try clear hx116_2
                    try clear hx116_3
                    try clear hx116_4
                    try clear hx117_0
                    try clear hx117_1
                    try clear hx117_2
                    try clear hx117_3
                    try clear hx117_4
                    try clear hx118_0
                    try clear hx118_1
                    try clear hx118_2
                    try clear hx118_3
                    try clear hx118_4
                    try clear p1
                    try clear p116
                    try clear p117
                    try clear p118
                    try clear p2
                    try clear q1
                    try clear q116
                    try clear q117
                    try clear q118
                    obtain ⟨kq, x34_11, rfl, HA, HJ11, ⟨mc11, rfl⟩⟩ := hcut
                    cases kq with
                    | zero => exact absurd HA.out (by simp [ringworkref25_since.j2])
                    | succ kj11 =>
                      have H := HA.out
                      clear HA
                      simp only [ringworkref25_since.j2] at H
                      by_cases c14 : x34_11 = true
                      · subst c14
                        have H1 : (ringworkref25_since.l0 kj11 l0 a1 a2 x8_1 (wrap64 (x8_1 + 1))) = some r := by rw [if_pos rfl] at H; exact H
                        clear H
                        have H := H1
                        clear H1
                        have H' := Aside0.mk H
                        clear H
                        go_wp2
                        go_roundg kj11
                        case measure => have := HK1.out; have := HJ4.out; have := HJ11.out; omega
                        case rel => exact ⟨(x8_1), (wrap64 (x8_1 + 1)), (by first | rfl | (simp; done) | (simp [*]; done)), (by first | rfl | (simp; done) | (simp [*]; done)), H', ⟨by have := HK1.out; have := HJ4.out; have := HJ11.out; omega⟩, by repeat (first | exact Drawn0.refl _ | apply Drawn0.step)⟩
                      · replace c14 := Bool.eq_false_iff.mpr c14
                        subst c14
                        have H1 : (if ((rd_T43 l0 x8_1).f0) = 5 then (ringworkref25_since.l0 kj11 l0 a1 a2 (-1) (wrap64 (x8_1 + 1))) else (if ((rd_T43 l0 x8_1).f0) = 7 then (ringworkref25_since.l0 kj11 l0 a1 a2 (-1) (wrap64 (x8_1 + 1))) else (ringworkref25_since.l0 kj11 l0 a1 a2 x7_1 (wrap64 (x8_1 + 1))))) = some r := by rw [if_neg (show ¬ (false = true) by decide)] at H; exact H
                        clear H
                        have H := H1
                        clear H1
                        by_cases c15 : ((rd_T43 l0 x8_1).f0) = 5
                        · rw [if_pos c15] at H
                          have c15b0 : (((rd_T43 l0 x8_1).f0) == 5) = true := beq_iff_eq.mpr c15
                          have c15b1 : (((rd_T43 l0 x8_1).f0) != 5) = false := bne_eq_false_iff_eq.mpr c15
                          clear c15
                          have H' := Aside0.mk H
                          clear H
                          go_wp2
                          go_roundg kj11
                          case measure => have := HK1.out; have := HJ4.out; have := HJ11.out; omega
                          case rel => exact ⟨((-1)), (wrap64 (x8_1 + 1)), (by first | rfl | (simp; done) | (simp [*]; done)), (by first | rfl | (simp; done) | (simp [*]; done)), H', ⟨by have := HK1.out; have := HJ4.out; have := HJ11.out; omega⟩, by repeat (first | exact Drawn0.refl _ | apply Drawn0.step)⟩
                        · rw [if_neg c15] at H
                          have c15b0 : (((rd_T43 l0 x8_1).f0) == 5) = false := beq_eq_false_iff_ne.mpr c15
                          have c15b1 : (((rd_T43 l0 x8_1).f0) != 5) = true := bne_iff_ne.mpr c15
                          by_cases c16 : ((rd_T43 l0 x8_1).f0) = 7
                          · rw [if_pos c16] at H
                            have c16b0 : (((rd_T43 l0 x8_1).f0) == 7) = true := beq_iff_eq.mpr c16
                            have c16b1 : (((rd_T43 l0 x8_1).f0) != 7) = false := bne_eq_false_iff_eq.mpr c16
                            clear c16
                            have H' := Aside0.mk H
                            clear H
                            go_wp2
                            go_roundg kj11
                            case measure => have := HK1.out; have := HJ4.out; have := HJ11.out; omega
                            case rel => exact ⟨((-1)), (wrap64 (x8_1 + 1)), (by first | rfl | (simp; done) | (simp [*]; done)), (by first | rfl | (simp; done) | (simp [*]; done)), H', ⟨by have := HK1.out; have := HJ4.out; have := HJ11.out; omega⟩, by repeat (first | exact Drawn0.refl _ | apply Drawn0.step)⟩
                          · rw [if_neg c16] at H
                            have c16b0 : (((rd_T43 l0 x8_1).f0) == 7) = false := beq_eq_false_iff_ne.mpr c16
                            have c16b1 : (((rd_T43 l0 x8_1).f0) != 7) = true := bne_iff_ne.mpr c16
                            have H' := Aside0.mk H
                            clear H
                            go_wp2
                            go_roundg kj11
                            case measure => have := HK1.out; have := HJ4.out; have := HJ11.out; omega
                            case rel => exact ⟨(x7_1), (wrap64 (x8_1 + 1)), (by first | rfl | (simp; done) | (simp [*]; done)), (by first | rfl | (simp; done) | (simp [*]; done)), H', ⟨by have := HK1.out; have := HJ4.out; have := HJ11.out; omega⟩, by repeat (first | exact Drawn0.refl _ | apply Drawn0.step)⟩
                · rw [if_neg c11] at H
                  exact absurd H (by simp)
              · rw [if_neg c10] at H
                exact absurd H (by simp)
      · rw [if_neg c4] at H
        have c4b0 : decide (x8_1 < a1) = false := decide_eq_false c4
        clear c4
        obtain rfl := Option.some.inj H
        go_wp2
        go_ret
        exact ⟨by first | rfl | (simp; done) | (simp [*]; done), by repeat (first | exact Drawn0.refl _ | apply Drawn0.step)⟩

/-! ### ringworkref25_touched: function 46 -/
mutual
def ringworkref25_touched.l0 : Nat → List (S43) → Int → Int → ByteArray → Int → Int → Int → Option (Bool)
  | 0, _, _, _, _, _, _, _ => none
  | k + 1, x0, x1, x2, x3, x4, x11, x12 => if x11 ≥ 0 then (ringworkref25_touched.j1 k x0 x1 x2 x3 x4 x11 x12 (decide (x12 < x1))) else (ringworkref25_touched.j1 k x0 x1 x2 x3 x4 x11 x12 false)
def ringworkref25_touched.j1 : Nat → List (S43) → Int → Int → ByteArray → Int → Int → Int → Bool → Option (Bool)
  | 0, _, _, _, _, _, _, _, _ => none
  | k + 1, x0, x1, x2, x3, x4, x11, x12, x25 => if x25 = true then (if 0 ≤ x12 then (if x12 < (x0.length : Int) then (if ((rd_T43 x0 x12).f1) = x2 then (if ((rd_T43 x0 x12).f2).toList = x3.toList then (if ((rd_T43 x0 x12).f0) = 2 then (if x4 = 0 then (some true) else (if ((rd_T43 x0 x12).f0) = x4 then (some true) else (ringworkref25_touched.l0 k x0 x1 x2 x3 x4 x11 (wrap64 (x12 + 1))))) else (if ((rd_T43 x0 x12).f0) = 3 then (if x4 = 0 then (some true) else (if ((rd_T43 x0 x12).f0) = x4 then (some true) else (ringworkref25_touched.l0 k x0 x1 x2 x3 x4 x11 (wrap64 (x12 + 1))))) else (ringworkref25_touched.l0 k x0 x1 x2 x3 x4 x11 (wrap64 (x12 + 1))))) else (ringworkref25_touched.l0 k x0 x1 x2 x3 x4 x11 (wrap64 (x12 + 1)))) else (ringworkref25_touched.l0 k x0 x1 x2 x3 x4 x11 (wrap64 (x12 + 1)))) else (none)) else (none)) else (some false)
end
def ringworkref25_touched.f (k : Nat) (l0 : List (S43)) (a1 : Int) (a2 : Int) (a3 : ByteArray) (a4 : Int) : Option (Bool) := (ringworkref25_since.f k l0 a1 a2).bind fun t119 => (ringworkref25_touched.l0 k l0 a1 a2 a3 a4 t119 (wrap64 (t119 + 1)))
set_option maxHeartbeats 8000000 in
set_option maxRecDepth 100000 in
theorem ringworkref25_touched.calls (k : Nat) (A0 : Option Addr) (c0 : Nat) (l0 : List (S43)) (a1 : Int) (a2 : Int) (a3 : ByteArray) (a4 : Int) (r : Bool) (w : World) (hr0 : Kd.C k43 w A0 l0.length l0) (hc0 : l0.length ≤ c0) (h : ringworkref25_touched.f k l0 a1 a2 a3 a4 = some r) :
    Calls Tryz.prog 46 #[.slice A0 l0.length c0, .int .i64 a1, .int .i64 a2, .string a3, .int .i64 a4] w fun e w' => e = .returned (.bool r) ∧ Drawn0 w w' := by
  have HR0 := Aside0.mk hr0
  have HC0 := Aside0.mk hc0
  clear hr0 hc0
  have H : ((ringworkref25_since.f k l0 a1 a2).bind fun t119 => (ringworkref25_touched.l0 k l0 a1 a2 a3 a4 t119 (wrap64 (t119 + 1)))) = some r := h
  clear h
  replace H := Option.bind_eq_some_iff.mp H
  obtain ⟨t119, A60, H⟩ := H
  replace H : (ringworkref25_touched.l0 k l0 a1 a2 a3 a4 t119 (wrap64 (t119 + 1))) = some r := H
  have A6 := Aside0.mk A60
  clear A60
  have H' := Aside0.mk H
  clear H
  go_enter Tryz.func46, Tryz.ntmps46
  go_wp2_with (first | ((with_reducible refine gate_callee (f := 32) rfl ?_); refine goesL_ (some 16) rfl rfl Tryz.func32 (by kernel_rfl) rfl #[.slice A0 l0.length c0, .int .i64 a1, .int .i64 a2] rfl (by (try simp only [List.map_toArray, List.map_cons, List.map_nil]); first | done | rfl | (simp only [List.length_drop, List.length_take]; rfl)) ?_; (with_reducible refine (ringworkref25_since.calls k _ _ l0 a1 a2 t119 _ ?side1 ?side2 A6.out).mono ?_); (case side1 => repeat (first | exact HR0.out | (with_reducible refine Kd.C_alloc ?_ _) | (with_reducible refine Kd.C_drewN ?_ _) | (with_reducible refine Kd.C_drew ?_))); (case side2 => exact HC0.out); rintro e w' ⟨rfl, ⟨nd, rfl⟩⟩; refine ⟨_, rfl, ?_⟩))
  go_loopg [12] k (fun kq v12 w' => ∃ (x12_1 : Int), v12 = .int .i64 x12_1 ∧ Aside0 (ringworkref25_touched.l0 kq l0 a1 a2 a3 a4 t119 x12_1 = some r) ∧ Aside0 (kq ≤ k) ∧ Drawn0 w w')
  case atStart => exact ⟨(wrap64 (t119 + 1)), (by first | rfl | (simp; done) | (simp [*]; done)), H', ⟨Nat.le_refl _⟩, by repeat (first | exact Drawn0.refl _ | apply Drawn0.step)⟩
  case round =>
    clear H'
    try clear p2
    try clear c3
    try clear c4
    try clear p6
    obtain ⟨x12_1, rfl, HA, HK1, ⟨m1, rfl⟩⟩ := hrel
    cases gk with
    | zero => exact absurd HA.out (by simp [ringworkref25_touched.l0])
    | succ k1 =>
      have H := HA.out
      clear HA
      simp only [ringworkref25_touched.l0] at H
      have HC7 := Aside0.mk H
      clear H
      go_upto_region 3 with (fail)
      go_cut [25] (fun v25 wc => ∃ (kq : Nat) (x25_6 : Bool), v25 = .bool x25_6 ∧ Aside0 (ringworkref25_touched.j1 kq l0 a1 a2 a3 a4 t119 x12_1 x25_6 = some r) ∧ Aside0 (kq ≤ k1) ∧ Drawn0 w wc)
      case first =>
        have H := HC7.out
        clear HC7
        by_cases c8 : t119 ≥ 0
        · rw [if_pos c8] at H
          have c8b0 : decide (0 ≤ t119) = true := decide_eq_true c8
          clear c8
          (first | rw [c8b0] | (simp only [i64_w, i32_w]; rw [c8b0]) | skip)
          have H' := Aside0.mk H
          clear H
          go_wp2
          go_meet
          case rel => exact ⟨_, (decide (x12_1 < a1)), (by first | rfl | (simp; done) | (simp [*]; done)), H', ⟨by have := HK1.out; first | omega | exact Nat.le_refl _⟩, by repeat (first | exact Drawn0.refl _ | apply Drawn0.step)⟩
        · rw [if_neg c8] at H
          have c8b0 : decide (0 ≤ t119) = false := decide_eq_false c8
          clear c8
          (first | rw [c8b0] | (simp only [i64_w, i32_w]; rw [c8b0]) | skip)
          have H' := Aside0.mk H
          clear H
          go_wp2
          go_meet
          case rel => exact ⟨_, (false), (by first | rfl | (simp; done) | (simp [*]; done)), H', ⟨by have := HK1.out; first | omega | exact Nat.le_refl _⟩, by repeat (first | exact Drawn0.refl _ | apply Drawn0.step)⟩
      case rest =>
        clear HC7
        try clear p2
        try clear c3
        try clear c4
        try clear p6
        try clear c8
        try clear c8b0
        try clear p2
        try clear p6
        obtain ⟨kq, x25_6, rfl, HA, HJ6, ⟨mc6, rfl⟩⟩ := hcut
        cases kq with
        | zero => exact absurd HA.out (by simp [ringworkref25_touched.j1])
        | succ kj6 =>
          have H := HA.out
          clear HA
          simp only [ringworkref25_touched.j1] at H
          by_cases c9 : x25_6 = true
          · subst c9
            have H1 : (if 0 ≤ x12_1 then (if x12_1 < (l0.length : Int) then (if ((rd_T43 l0 x12_1).f1) = a2 then (if ((rd_T43 l0 x12_1).f2).toList = a3.toList then (if ((rd_T43 l0 x12_1).f0) = 2 then (if a4 = 0 then (some true) else (if ((rd_T43 l0 x12_1).f0) = a4 then (some true) else (ringworkref25_touched.l0 kj6 l0 a1 a2 a3 a4 t119 (wrap64 (x12_1 + 1))))) else (if ((rd_T43 l0 x12_1).f0) = 3 then (if a4 = 0 then (some true) else (if ((rd_T43 l0 x12_1).f0) = a4 then (some true) else (ringworkref25_touched.l0 kj6 l0 a1 a2 a3 a4 t119 (wrap64 (x12_1 + 1))))) else (ringworkref25_touched.l0 kj6 l0 a1 a2 a3 a4 t119 (wrap64 (x12_1 + 1))))) else (ringworkref25_touched.l0 kj6 l0 a1 a2 a3 a4 t119 (wrap64 (x12_1 + 1)))) else (ringworkref25_touched.l0 kj6 l0 a1 a2 a3 a4 t119 (wrap64 (x12_1 + 1)))) else (none)) else (none)) = some r := by rw [if_pos rfl] at H; exact H
            clear H
            have H := H1
            clear H1
            by_cases c10 : 0 ≤ x12_1
            · rw [if_pos c10] at H
              have c10b0 : decide (0 ≤ x12_1) = true := decide_eq_true c10
              clear c10
              by_cases c11 : x12_1 < (l0.length : Int)
              · rw [if_pos c11] at H
                have c11b0 : decide (x12_1 < (l0.length : Int)) = true := decide_eq_true c11
                clear c11
                by_cases c12 : ((rd_T43 l0 x12_1).f1) = a2
                · rw [if_pos c12] at H
                  have c12b0 : (((rd_T43 l0 x12_1).f1) == a2) = true := beq_iff_eq.mpr c12
                  have c12b1 : (((rd_T43 l0 x12_1).f1) != a2) = false := bne_eq_false_iff_eq.mpr c12
                  clear c12
                  by_cases c13 : ((rd_T43 l0 x12_1).f2).toList = a3.toList
                  · rw [if_pos c13] at H
                    have c13b0 : (((rd_T43 l0 x12_1).f2).toList == a3.toList) = true := beq_iff_eq.mpr c13
                    have c13b1 : (((rd_T43 l0 x12_1).f2).toList != a3.toList) = false := bne_eq_false_iff_eq.mpr c13
                    clear c13
                    by_cases c14 : ((rd_T43 l0 x12_1).f0) = 2
                    · rw [if_pos c14] at H
                      have c14b0 : (((rd_T43 l0 x12_1).f0) == 2) = true := beq_iff_eq.mpr c14
                      have c14b1 : (((rd_T43 l0 x12_1).f0) != 2) = false := bne_eq_false_iff_eq.mpr c14
                      clear c14
                      by_cases c15 : a4 = 0
                      · rw [if_pos c15] at H
                        have c15b0 : (a4 == 0) = true := beq_iff_eq.mpr c15
                        have c15b1 : (a4 != 0) = false := bne_eq_false_iff_eq.mpr c15
                        clear c15
                        obtain rfl := Option.some.inj H
                        have p120 : 0 ≤ (x12_1 : Int) := of_decide_eq_true (by first | (with_reducible assumption) | assumption)
                        have q120 : x12_1 < (l0.length : Int) := of_decide_eq_true (by first | (with_reducible assumption) | assumption)
                        obtain ⟨ad120, e120, hx120_0, hx120_1, hx120_2, hx120_3, hx120_4⟩ := at_T43 HR0.out x12_1 p120 q120
                        cases e120
                        replace p120 := eq_true p120
                        replace q120 := eq_true q120
                        have p121 : 0 ≤ (x12_1 : Int) := of_decide_eq_true (by first | (with_reducible assumption) | assumption)
                        have q121 : x12_1 < (l0.length : Int) := of_decide_eq_true (by first | (with_reducible assumption) | assumption)
                        obtain ⟨ad121, e121, hx121_0, hx121_1, hx121_2, hx121_3, hx121_4⟩ := at_T43 HR0.out x12_1 p121 q121
                        obtain rfl : ad120 = ad121 := (by injection e121)
                        replace p121 := eq_true p121
                        replace q121 := eq_true q121
                        have p122 : 0 ≤ (x12_1 : Int) := of_decide_eq_true (by first | (with_reducible assumption) | assumption)
                        have q122 : x12_1 < (l0.length : Int) := of_decide_eq_true (by first | (with_reducible assumption) | assumption)
                        obtain ⟨ad122, e122, hx122_0, hx122_1, hx122_2, hx122_3, hx122_4⟩ := at_T43 HR0.out x12_1 p122 q122
                        obtain rfl : ad120 = ad122 := (by injection e122)
                        replace p122 := eq_true p122
                        replace q122 := eq_true q122
                        go_wp2
                        go_ret
                        exact ⟨by first | rfl | (simp; done) | (simp [*]; done), by repeat (first | exact Drawn0.refl _ | apply Drawn0.step)⟩
                      · rw [if_neg c15] at H
                        have c15b0 : (a4 == 0) = false := beq_eq_false_iff_ne.mpr c15
                        have c15b1 : (a4 != 0) = true := bne_iff_ne.mpr c15
                        by_cases c16 : ((rd_T43 l0 x12_1).f0) = a4
                        · rw [if_pos c16] at H
                          have c16b0 : (((rd_T43 l0 x12_1).f0) == a4) = true := beq_iff_eq.mpr c16
                          have c16b1 : (((rd_T43 l0 x12_1).f0) != a4) = false := bne_eq_false_iff_eq.mpr c16
                          clear c16
                          obtain rfl := Option.some.inj H
                          have p120 : 0 ≤ (x12_1 : Int) := of_decide_eq_true (by first | (with_reducible assumption) | assumption)
                          have q120 : x12_1 < (l0.length : Int) := of_decide_eq_true (by first | (with_reducible assumption) | assumption)
                          obtain ⟨ad120, e120, hx120_0, hx120_1, hx120_2, hx120_3, hx120_4⟩ := at_T43 HR0.out x12_1 p120 q120
                          cases e120
                          replace p120 := eq_true p120
                          replace q120 := eq_true q120
                          have p121 : 0 ≤ (x12_1 : Int) := of_decide_eq_true (by first | (with_reducible assumption) | assumption)
                          have q121 : x12_1 < (l0.length : Int) := of_decide_eq_true (by first | (with_reducible assumption) | assumption)
                          obtain ⟨ad121, e121, hx121_0, hx121_1, hx121_2, hx121_3, hx121_4⟩ := at_T43 HR0.out x12_1 p121 q121
                          obtain rfl : ad120 = ad121 := (by injection e121)
                          replace p121 := eq_true p121
                          replace q121 := eq_true q121
                          have p122 : 0 ≤ (x12_1 : Int) := of_decide_eq_true (by first | (with_reducible assumption) | assumption)
                          have q122 : x12_1 < (l0.length : Int) := of_decide_eq_true (by first | (with_reducible assumption) | assumption)
                          obtain ⟨ad122, e122, hx122_0, hx122_1, hx122_2, hx122_3, hx122_4⟩ := at_T43 HR0.out x12_1 p122 q122
                          obtain rfl : ad120 = ad122 := (by injection e122)
                          replace p122 := eq_true p122
                          replace q122 := eq_true q122
                          have p123 : 0 ≤ (x12_1 : Int) := of_decide_eq_true (by first | (with_reducible assumption) | assumption)
                          have q123 : x12_1 < (l0.length : Int) := of_decide_eq_true (by first | (with_reducible assumption) | assumption)
                          obtain ⟨ad123, e123, hx123_0, hx123_1, hx123_2, hx123_3, hx123_4⟩ := at_T43 HR0.out x12_1 p123 q123
                          obtain rfl : ad120 = ad123 := (by injection e123)
                          replace p123 := eq_true p123
                          replace q123 := eq_true q123
                          go_wp2
                          go_ret
                          exact ⟨by first | rfl | (simp; done) | (simp [*]; done), by repeat (first | exact Drawn0.refl _ | apply Drawn0.step)⟩
                        · rw [if_neg c16] at H
                          have c16b0 : (((rd_T43 l0 x12_1).f0) == a4) = false := beq_eq_false_iff_ne.mpr c16
                          have c16b1 : (((rd_T43 l0 x12_1).f0) != a4) = true := bne_iff_ne.mpr c16
                          have H' := Aside0.mk H
                          clear H
                          have p120 : 0 ≤ (x12_1 : Int) := of_decide_eq_true (by first | (with_reducible assumption) | assumption)
                          have q120 : x12_1 < (l0.length : Int) := of_decide_eq_true (by first | (with_reducible assumption) | assumption)
                          obtain ⟨ad120, e120, hx120_0, hx120_1, hx120_2, hx120_3, hx120_4⟩ := at_T43 HR0.out x12_1 p120 q120
                          cases e120
                          replace p120 := eq_true p120
                          replace q120 := eq_true q120
                          have p121 : 0 ≤ (x12_1 : Int) := of_decide_eq_true (by first | (with_reducible assumption) | assumption)
                          have q121 : x12_1 < (l0.length : Int) := of_decide_eq_true (by first | (with_reducible assumption) | assumption)
                          obtain ⟨ad121, e121, hx121_0, hx121_1, hx121_2, hx121_3, hx121_4⟩ := at_T43 HR0.out x12_1 p121 q121
                          obtain rfl : ad120 = ad121 := (by injection e121)
                          replace p121 := eq_true p121
                          replace q121 := eq_true q121
                          have p122 : 0 ≤ (x12_1 : Int) := of_decide_eq_true (by first | (with_reducible assumption) | assumption)
                          have q122 : x12_1 < (l0.length : Int) := of_decide_eq_true (by first | (with_reducible assumption) | assumption)
                          obtain ⟨ad122, e122, hx122_0, hx122_1, hx122_2, hx122_3, hx122_4⟩ := at_T43 HR0.out x12_1 p122 q122
                          obtain rfl : ad120 = ad122 := (by injection e122)
                          replace p122 := eq_true p122
                          replace q122 := eq_true q122
                          have p123 : 0 ≤ (x12_1 : Int) := of_decide_eq_true (by first | (with_reducible assumption) | assumption)
                          have q123 : x12_1 < (l0.length : Int) := of_decide_eq_true (by first | (with_reducible assumption) | assumption)
                          obtain ⟨ad123, e123, hx123_0, hx123_1, hx123_2, hx123_3, hx123_4⟩ := at_T43 HR0.out x12_1 p123 q123
                          obtain rfl : ad120 = ad123 := (by injection e123)
                          replace p123 := eq_true p123
                          replace q123 := eq_true q123
                          go_wp2
                          go_roundg kj6
                          case measure => have := HK1.out; have := HJ6.out; omega
                          case rel => exact ⟨(wrap64 (x12_1 + 1)), (by first | rfl | (simp; done) | (simp [*]; done)), H', ⟨by have := HK1.out; have := HJ6.out; omega⟩, by repeat (first | exact Drawn0.refl _ | apply Drawn0.step)⟩
                    · rw [if_neg c14] at H
                      have c14b0 : (((rd_T43 l0 x12_1).f0) == 2) = false := beq_eq_false_iff_ne.mpr c14
                      have c14b1 : (((rd_T43 l0 x12_1).f0) != 2) = true := bne_iff_ne.mpr c14
                      by_cases c17 : ((rd_T43 l0 x12_1).f0) = 3
                      · rw [if_pos c17] at H
                        have c17b0 : (((rd_T43 l0 x12_1).f0) == 3) = true := beq_iff_eq.mpr c17
                        have c17b1 : (((rd_T43 l0 x12_1).f0) != 3) = false := bne_eq_false_iff_eq.mpr c17
                        clear c17
                        by_cases c18 : a4 = 0
                        · rw [if_pos c18] at H
                          have c18b0 : (a4 == 0) = true := beq_iff_eq.mpr c18
                          have c18b1 : (a4 != 0) = false := bne_eq_false_iff_eq.mpr c18
                          clear c18
                          obtain rfl := Option.some.inj H
                          have p120 : 0 ≤ (x12_1 : Int) := of_decide_eq_true (by first | (with_reducible assumption) | assumption)
                          have q120 : x12_1 < (l0.length : Int) := of_decide_eq_true (by first | (with_reducible assumption) | assumption)
                          obtain ⟨ad120, e120, hx120_0, hx120_1, hx120_2, hx120_3, hx120_4⟩ := at_T43 HR0.out x12_1 p120 q120
                          cases e120
                          replace p120 := eq_true p120
                          replace q120 := eq_true q120
                          have p121 : 0 ≤ (x12_1 : Int) := of_decide_eq_true (by first | (with_reducible assumption) | assumption)
                          have q121 : x12_1 < (l0.length : Int) := of_decide_eq_true (by first | (with_reducible assumption) | assumption)
                          obtain ⟨ad121, e121, hx121_0, hx121_1, hx121_2, hx121_3, hx121_4⟩ := at_T43 HR0.out x12_1 p121 q121
                          obtain rfl : ad120 = ad121 := (by injection e121)
                          replace p121 := eq_true p121
                          replace q121 := eq_true q121
                          have p122 : 0 ≤ (x12_1 : Int) := of_decide_eq_true (by first | (with_reducible assumption) | assumption)
                          have q122 : x12_1 < (l0.length : Int) := of_decide_eq_true (by first | (with_reducible assumption) | assumption)
                          obtain ⟨ad122, e122, hx122_0, hx122_1, hx122_2, hx122_3, hx122_4⟩ := at_T43 HR0.out x12_1 p122 q122
                          obtain rfl : ad120 = ad122 := (by injection e122)
                          replace p122 := eq_true p122
                          replace q122 := eq_true q122
                          have p124 : 0 ≤ (x12_1 : Int) := of_decide_eq_true (by first | (with_reducible assumption) | assumption)
                          have q124 : x12_1 < (l0.length : Int) := of_decide_eq_true (by first | (with_reducible assumption) | assumption)
                          obtain ⟨ad124, e124, hx124_0, hx124_1, hx124_2, hx124_3, hx124_4⟩ := at_T43 HR0.out x12_1 p124 q124
                          obtain rfl : ad120 = ad124 := (by injection e124)
                          replace p124 := eq_true p124
                          replace q124 := eq_true q124
                          go_wp2
                          go_ret
                          exact ⟨by first | rfl | (simp; done) | (simp [*]; done), by repeat (first | exact Drawn0.refl _ | apply Drawn0.step)⟩
                        · rw [if_neg c18] at H
                          have c18b0 : (a4 == 0) = false := beq_eq_false_iff_ne.mpr c18
                          have c18b1 : (a4 != 0) = true := bne_iff_ne.mpr c18
                          by_cases c19 : ((rd_T43 l0 x12_1).f0) = a4
                          · rw [if_pos c19] at H
                            have c19b0 : (((rd_T43 l0 x12_1).f0) == a4) = true := beq_iff_eq.mpr c19
                            have c19b1 : (((rd_T43 l0 x12_1).f0) != a4) = false := bne_eq_false_iff_eq.mpr c19
                            clear c19
                            obtain rfl := Option.some.inj H
                            have p120 : 0 ≤ (x12_1 : Int) := of_decide_eq_true (by first | (with_reducible assumption) | assumption)
                            have q120 : x12_1 < (l0.length : Int) := of_decide_eq_true (by first | (with_reducible assumption) | assumption)
                            obtain ⟨ad120, e120, hx120_0, hx120_1, hx120_2, hx120_3, hx120_4⟩ := at_T43 HR0.out x12_1 p120 q120
                            cases e120
                            replace p120 := eq_true p120
                            replace q120 := eq_true q120
                            have p121 : 0 ≤ (x12_1 : Int) := of_decide_eq_true (by first | (with_reducible assumption) | assumption)
                            have q121 : x12_1 < (l0.length : Int) := of_decide_eq_true (by first | (with_reducible assumption) | assumption)
                            obtain ⟨ad121, e121, hx121_0, hx121_1, hx121_2, hx121_3, hx121_4⟩ := at_T43 HR0.out x12_1 p121 q121
                            obtain rfl : ad120 = ad121 := (by injection e121)
                            replace p121 := eq_true p121
                            replace q121 := eq_true q121
                            have p122 : 0 ≤ (x12_1 : Int) := of_decide_eq_true (by first | (with_reducible assumption) | assumption)
                            have q122 : x12_1 < (l0.length : Int) := of_decide_eq_true (by first | (with_reducible assumption) | assumption)
                            obtain ⟨ad122, e122, hx122_0, hx122_1, hx122_2, hx122_3, hx122_4⟩ := at_T43 HR0.out x12_1 p122 q122
                            obtain rfl : ad120 = ad122 := (by injection e122)
                            replace p122 := eq_true p122
                            replace q122 := eq_true q122
                            have p124 : 0 ≤ (x12_1 : Int) := of_decide_eq_true (by first | (with_reducible assumption) | assumption)
                            have q124 : x12_1 < (l0.length : Int) := of_decide_eq_true (by first | (with_reducible assumption) | assumption)
                            obtain ⟨ad124, e124, hx124_0, hx124_1, hx124_2, hx124_3, hx124_4⟩ := at_T43 HR0.out x12_1 p124 q124
                            obtain rfl : ad120 = ad124 := (by injection e124)
                            replace p124 := eq_true p124
                            replace q124 := eq_true q124
                            have p125 : 0 ≤ (x12_1 : Int) := of_decide_eq_true (by first | (with_reducible assumption) | assumption)
                            have q125 : x12_1 < (l0.length : Int) := of_decide_eq_true (by first | (with_reducible assumption) | assumption)
                            obtain ⟨ad125, e125, hx125_0, hx125_1, hx125_2, hx125_3, hx125_4⟩ := at_T43 HR0.out x12_1 p125 q125
                            obtain rfl : ad120 = ad125 := (by injection e125)
                            replace p125 := eq_true p125
                            replace q125 := eq_true q125
                            go_wp2
                            go_ret
                            exact ⟨by first | rfl | (simp; done) | (simp [*]; done), by repeat (first | exact Drawn0.refl _ | apply Drawn0.step)⟩
                          · rw [if_neg c19] at H
                            have c19b0 : (((rd_T43 l0 x12_1).f0) == a4) = false := beq_eq_false_iff_ne.mpr c19
                            have c19b1 : (((rd_T43 l0 x12_1).f0) != a4) = true := bne_iff_ne.mpr c19
                            have H' := Aside0.mk H
                            clear H
                            have p120 : 0 ≤ (x12_1 : Int) := of_decide_eq_true (by first | (with_reducible assumption) | assumption)
                            have q120 : x12_1 < (l0.length : Int) := of_decide_eq_true (by first | (with_reducible assumption) | assumption)
                            obtain ⟨ad120, e120, hx120_0, hx120_1, hx120_2, hx120_3, hx120_4⟩ := at_T43 HR0.out x12_1 p120 q120
                            cases e120
                            replace p120 := eq_true p120
                            replace q120 := eq_true q120
                            have p121 : 0 ≤ (x12_1 : Int) := of_decide_eq_true (by first | (with_reducible assumption) | assumption)
                            have q121 : x12_1 < (l0.length : Int) := of_decide_eq_true (by first | (with_reducible assumption) | assumption)
                            obtain ⟨ad121, e121, hx121_0, hx121_1, hx121_2, hx121_3, hx121_4⟩ := at_T43 HR0.out x12_1 p121 q121
                            obtain rfl : ad120 = ad121 := (by injection e121)
                            replace p121 := eq_true p121
                            replace q121 := eq_true q121
                            have p122 : 0 ≤ (x12_1 : Int) := of_decide_eq_true (by first | (with_reducible assumption) | assumption)
                            have q122 : x12_1 < (l0.length : Int) := of_decide_eq_true (by first | (with_reducible assumption) | assumption)
                            obtain ⟨ad122, e122, hx122_0, hx122_1, hx122_2, hx122_3, hx122_4⟩ := at_T43 HR0.out x12_1 p122 q122
                            obtain rfl : ad120 = ad122 := (by injection e122)
                            replace p122 := eq_true p122
                            replace q122 := eq_true q122
                            have p124 : 0 ≤ (x12_1 : Int) := of_decide_eq_true (by first | (with_reducible assumption) | assumption)
                            have q124 : x12_1 < (l0.length : Int) := of_decide_eq_true (by first | (with_reducible assumption) | assumption)
                            obtain ⟨ad124, e124, hx124_0, hx124_1, hx124_2, hx124_3, hx124_4⟩ := at_T43 HR0.out x12_1 p124 q124
                            obtain rfl : ad120 = ad124 := (by injection e124)
                            replace p124 := eq_true p124
                            replace q124 := eq_true q124
                            have p125 : 0 ≤ (x12_1 : Int) := of_decide_eq_true (by first | (with_reducible assumption) | assumption)
                            have q125 : x12_1 < (l0.length : Int) := of_decide_eq_true (by first | (with_reducible assumption) | assumption)
                            obtain ⟨ad125, e125, hx125_0, hx125_1, hx125_2, hx125_3, hx125_4⟩ := at_T43 HR0.out x12_1 p125 q125
                            obtain rfl : ad120 = ad125 := (by injection e125)
                            replace p125 := eq_true p125
                            replace q125 := eq_true q125
                            go_wp2
                            go_roundg kj6
                            case measure => have := HK1.out; have := HJ6.out; omega
                            case rel => exact ⟨(wrap64 (x12_1 + 1)), (by first | rfl | (simp; done) | (simp [*]; done)), H', ⟨by have := HK1.out; have := HJ6.out; omega⟩, by repeat (first | exact Drawn0.refl _ | apply Drawn0.step)⟩
                      · rw [if_neg c17] at H
                        have c17b0 : (((rd_T43 l0 x12_1).f0) == 3) = false := beq_eq_false_iff_ne.mpr c17
                        have c17b1 : (((rd_T43 l0 x12_1).f0) != 3) = true := bne_iff_ne.mpr c17
                        have H' := Aside0.mk H
                        clear H
                        have p120 : 0 ≤ (x12_1 : Int) := of_decide_eq_true (by first | (with_reducible assumption) | assumption)
                        have q120 : x12_1 < (l0.length : Int) := of_decide_eq_true (by first | (with_reducible assumption) | assumption)
                        obtain ⟨ad120, e120, hx120_0, hx120_1, hx120_2, hx120_3, hx120_4⟩ := at_T43 HR0.out x12_1 p120 q120
                        cases e120
                        replace p120 := eq_true p120
                        replace q120 := eq_true q120
                        have p121 : 0 ≤ (x12_1 : Int) := of_decide_eq_true (by first | (with_reducible assumption) | assumption)
                        have q121 : x12_1 < (l0.length : Int) := of_decide_eq_true (by first | (with_reducible assumption) | assumption)
                        obtain ⟨ad121, e121, hx121_0, hx121_1, hx121_2, hx121_3, hx121_4⟩ := at_T43 HR0.out x12_1 p121 q121
                        obtain rfl : ad120 = ad121 := (by injection e121)
                        replace p121 := eq_true p121
                        replace q121 := eq_true q121
                        have p122 : 0 ≤ (x12_1 : Int) := of_decide_eq_true (by first | (with_reducible assumption) | assumption)
                        have q122 : x12_1 < (l0.length : Int) := of_decide_eq_true (by first | (with_reducible assumption) | assumption)
                        obtain ⟨ad122, e122, hx122_0, hx122_1, hx122_2, hx122_3, hx122_4⟩ := at_T43 HR0.out x12_1 p122 q122
                        obtain rfl : ad120 = ad122 := (by injection e122)
                        replace p122 := eq_true p122
                        replace q122 := eq_true q122
                        have p124 : 0 ≤ (x12_1 : Int) := of_decide_eq_true (by first | (with_reducible assumption) | assumption)
                        have q124 : x12_1 < (l0.length : Int) := of_decide_eq_true (by first | (with_reducible assumption) | assumption)
                        obtain ⟨ad124, e124, hx124_0, hx124_1, hx124_2, hx124_3, hx124_4⟩ := at_T43 HR0.out x12_1 p124 q124
                        obtain rfl : ad120 = ad124 := (by injection e124)
                        replace p124 := eq_true p124
                        replace q124 := eq_true q124
                        go_wp2
                        go_roundg kj6
                        case measure => have := HK1.out; have := HJ6.out; omega
                        case rel => exact ⟨(wrap64 (x12_1 + 1)), (by first | rfl | (simp; done) | (simp [*]; done)), H', ⟨by have := HK1.out; have := HJ6.out; omega⟩, by repeat (first | exact Drawn0.refl _ | apply Drawn0.step)⟩
                  · rw [if_neg c13] at H
                    have c13b0 : (((rd_T43 l0 x12_1).f2).toList == a3.toList) = false := beq_eq_false_iff_ne.mpr c13
                    have c13b1 : (((rd_T43 l0 x12_1).f2).toList != a3.toList) = true := bne_iff_ne.mpr c13
                    have H' := Aside0.mk H
                    clear H
                    have p120 : 0 ≤ (x12_1 : Int) := of_decide_eq_true (by first | (with_reducible assumption) | assumption)
                    have q120 : x12_1 < (l0.length : Int) := of_decide_eq_true (by first | (with_reducible assumption) | assumption)
                    obtain ⟨ad120, e120, hx120_0, hx120_1, hx120_2, hx120_3, hx120_4⟩ := at_T43 HR0.out x12_1 p120 q120
                    cases e120
                    replace p120 := eq_true p120
                    replace q120 := eq_true q120
                    have p121 : 0 ≤ (x12_1 : Int) := of_decide_eq_true (by first | (with_reducible assumption) | assumption)
                    have q121 : x12_1 < (l0.length : Int) := of_decide_eq_true (by first | (with_reducible assumption) | assumption)
                    obtain ⟨ad121, e121, hx121_0, hx121_1, hx121_2, hx121_3, hx121_4⟩ := at_T43 HR0.out x12_1 p121 q121
                    obtain rfl : ad120 = ad121 := (by injection e121)
                    replace p121 := eq_true p121
                    replace q121 := eq_true q121
                    go_wp2
                    go_roundg kj6
                    case measure => have := HK1.out; have := HJ6.out; omega
                    case rel => exact ⟨(wrap64 (x12_1 + 1)), (by first | rfl | (simp; done) | (simp [*]; done)), H', ⟨by have := HK1.out; have := HJ6.out; omega⟩, by repeat (first | exact Drawn0.refl _ | apply Drawn0.step)⟩
                · rw [if_neg c12] at H
                  have c12b0 : (((rd_T43 l0 x12_1).f1) == a2) = false := beq_eq_false_iff_ne.mpr c12
                  have c12b1 : (((rd_T43 l0 x12_1).f1) != a2) = true := bne_iff_ne.mpr c12
                  have H' := Aside0.mk H
                  clear H
                  have p120 : 0 ≤ (x12_1 : Int) := of_decide_eq_true (by first | (with_reducible assumption) | assumption)
                  have q120 : x12_1 < (l0.length : Int) := of_decide_eq_true (by first | (with_reducible assumption) | assumption)
                  obtain ⟨ad120, e120, hx120_0, hx120_1, hx120_2, hx120_3, hx120_4⟩ := at_T43 HR0.out x12_1 p120 q120
                  cases e120
                  replace p120 := eq_true p120
                  replace q120 := eq_true q120
                  go_wp2
                  go_roundg kj6
                  case measure => have := HK1.out; have := HJ6.out; omega
                  case rel => exact ⟨(wrap64 (x12_1 + 1)), (by first | rfl | (simp; done) | (simp [*]; done)), H', ⟨by have := HK1.out; have := HJ6.out; omega⟩, by repeat (first | exact Drawn0.refl _ | apply Drawn0.step)⟩
              · rw [if_neg c11] at H
                exact absurd H (by simp)
            · rw [if_neg c10] at H
              exact absurd H (by simp)
          · replace c9 := Bool.eq_false_iff.mpr c9
            subst c9
            have H1 : (some false) = some r := by rw [if_neg (show ¬ (false = true) by decide)] at H; exact H
            clear H
            have H := H1
            clear H1
            obtain rfl := Option.some.inj H
            go_wp2
            go_ret
            exact ⟨by first | rfl | (simp; done) | (simp [*]; done), by repeat (first | exact Drawn0.refl _ | apply Drawn0.step)⟩

end Go.Proofs.YteblpjnkinghoaaGreat.J
/- The reference's since, in plain words; and how a function that counts its rounds comes to its value. -/
namespace Go.Proofs.YteblpjnkinghoaaGreat.J
open Go.RowKit Go.Proofs.YteblpjnkinghoaaGreatW.PrintWords
/-- From some number of rounds on, the value is there. -/
def Ev {α : Type} (g : Nat → Option α) (v : α) : Prop := ∃ K, ∀ k, K ≤ k → g k = some v
namespace Ev
theorem of {α : Type} {g : Nat → Option α} {v : α} (h : ∀ k, g k = some v) : Ev g v := ⟨0, fun k _ => h k⟩
theorem val {α : Type} (v : α) : Ev (fun _ => some v) v := of fun _ => rfl
theorem bind {α β : Type} {f : Nat → Option α} {g : Nat → α → Option β} {a : α} {v : β} (hf : Ev f a) (hg : Ev (fun k => g k a) v) : Ev (fun k => (f k).bind (g k)) v := by
  obtain ⟨K, h⟩ := hf
  obtain ⟨K', h'⟩ := hg
  exact ⟨max K K', fun k hk => by
    have h1 := h k (by omega)
    have h2 := h' k (by omega)
    show (f k).bind (g k) = _
    rw [h1]; exact h2⟩
theorem step {α : Type} {g body : Nat → Option α} {v : α} (e : ∀ k, g (k + 1) = body k) (h : Ev body v) : Ev g v := by
  obtain ⟨K, h⟩ := h
  exact ⟨K + 1, fun k hk => by
    obtain ⟨j, rfl⟩ : ∃ j, k = j + 1 := ⟨k - 1, by omega⟩
    rw [e]; exact h j (by omega)⟩
theorem congr {α : Type} {g body : Nat → Option α} {v : α} (h : Ev body v) (e : ∀ k, g k = body k) : Ev g v := by
  obtain ⟨K, h⟩ := h
  exact ⟨K, fun k hk => (e k).trans (h k hk)⟩
theorem ex {α : Type} {g : Nat → Option α} {v : α} (h : Ev g v) : ∃ k, g k = some v := by
  obtain ⟨K, h⟩ := h
  exact ⟨K, h K (Nat.le_refl _)⟩
end Ev
/-- The reference's way to say where a unit goes on. -/
def atI (st : Int × Bool) : Int := if st.2 = true then st.1 else -1
theorem rd_take {l : List S43} {n i : Nat} (h : i < n) (hn : n ≤ l.length) : (l.take n).drop i = rd_T43 l (i : Int) :: (l.take n).drop (i + 1) := by
  have hlt : i < (l.take n).length := by rw [List.length_take]; omega
  have e : rd_T43 l (i : Int) = (l.take n)[i] := by
    unfold rd_T43; rw [Int.toNat_natCast, List.getD_eq_getElem?_getD, List.getElem?_eq_getElem (by omega)]; simp
  rw [e]
  exact List.drop_eq_getElem_cons hlt
theorem ref_since_from (l : List S43) (n : Nat) (u : Int) (hn : n ≤ l.length) (hl : l.length ≤ 9223372036854775807) : ∀ (d i : Nat), d = n - i → i ≤ n → ∀ st : Int × Bool,
    Ev (fun k => ringworkref25_since.l0 k l (n : Int) u (atI st) (i : Int)) (atI (sinceFrom u ((l.take n).drop i) i st))
  | 0, i, hd, hi, st => by
    have : i = n := by omega
    subst this
    refine Ev.step (fun k => by rw [ringworkref25_since.l0, if_neg (by omega)]) ?_
    rw [List.drop_eq_nil_of_le (by rw [List.length_take]; omega)]
    exact Ev.val _
  | d + 1, i, hd, hi, st => by
    have hlt : i < n := by omega
    have next : ∀ st' : Int × Bool, Ev (fun k => ringworkref25_since.l0 k l (n : Int) u (atI st') (wrap64 ((i : Int) + 1))) (atI (sinceFrom u ((l.take n).drop (i + 1)) (i + 1) st')) := fun st' => by
      rw [wrap_next' (show i < l.length by omega) hl]
      exact ref_since_from l n u hn hl d (i + 1) (by omega) (by omega) st'
    rw [rd_take hlt hn, sinceFrom]
    refine Ev.step (fun k => by rw [ringworkref25_since.l0, if_pos (by omega), if_pos (by omega), if_pos (by omega)]) ?_
    generalize hx : rd_T43 l (i : Int) = x
    by_cases h1 : x.f1 = u
    · simp only [if_pos h1]
      by_cases h6 : x.f0 = 6
      · refine Ev.step (fun k => by rw [ringworkref25_since.j1, if_pos (by rw [h6]; rfl)]) ?_
        rw [show sinceStep u st i x = st by unfold sinceStep; rw [if_pos h1, if_pos h6]]
        exact next st
      · refine Ev.step (fun k => by rw [ringworkref25_since.j1, if_neg (by simpa using h6), if_pos (by omega), if_pos (by omega), hx]) ?_
        by_cases hq : x.f0 = 1 ∨ x.f0 = 4
        · rw [show sinceStep u st i x = ((i : Int), true) by unfold sinceStep; rw [if_pos h1, if_neg h6, if_pos hq]]
          have nx := next ((i : Int), true)
          rcases hq with hq | hq
          · simp only [if_pos hq]
            exact Ev.step (fun k => by rw [ringworkref25_since.j2, if_pos (by rw [hq]; rfl)]; rfl) nx
          · simp only [if_neg (show ¬ x.f0 = 1 by omega)]
            exact Ev.step (fun k => by rw [ringworkref25_since.j2, if_pos (by rw [hq]; rfl)]; rfl) nx
        · have hj : ∀ b : Bool, (x.f0 == 1) = false ∧ (x.f0 == 4) = false := fun _ => ⟨beq_eq_false_iff_ne.2 (by omega), beq_eq_false_iff_ne.2 (by omega)⟩
          simp only [if_neg (show ¬ x.f0 = 1 by omega), (hj true).2]
          refine Ev.step (fun k => by rw [ringworkref25_since.j2, if_neg (by decide)]) ?_
          by_cases h5 : x.f0 = 5 ∨ x.f0 = 7
          · rw [show sinceStep u st i x = (st.1, false) by unfold sinceStep; rw [if_pos h1, if_neg h6, if_neg hq, if_pos h5]]
            have nx := next (st.1, false)
            rcases h5 with h5 | h5
            · simp only [if_pos h5]; exact nx
            · simp only [if_neg (show ¬ x.f0 = 5 by omega), if_pos h5]; exact nx
          · rw [show sinceStep u st i x = st by unfold sinceStep; rw [if_pos h1, if_neg h6, if_neg hq, if_neg h5]]
            simp only [if_neg (show ¬ x.f0 = 5 by omega), if_neg (show ¬ x.f0 = 7 by omega)]
            exact next st
    · simp only [if_neg h1]
      refine Ev.step (fun k => by rw [ringworkref25_since.j1, if_pos rfl]) ?_
      rw [show sinceStep u st i x = st by unfold sinceStep; rw [if_neg h1]]
      exact next st
/-- The reference's since. -/
theorem ref_since (l : List S43) (n : Nat) (u : Int) (hn : n ≤ l.length) (hl : l.length ≤ 9223372036854775807) : Ev (fun k => ringworkref25_since.f k l (n : Int) u) (atI (sinceV (l.take n) u)) := by
  have := ref_since_from l n u hn hl n 0 (by omega) (by omega) (0, false)
  exact this
/-- A note of a unit, of a key, of a kind (0: before or after). -/
def tcond (u : Int) (key : ByteArray) (kind : Int) (n : S43) : Bool := decide (n.f1 = u ∧ n.f2 = key ∧ (n.f0 = 2 ∨ n.f0 = 3) ∧ (kind = 0 ∨ n.f0 = kind))
def touchedV (p : List S43) (u : Int) (key : ByteArray) (kind : Int) : Bool := (sinceV p u).2 && (p.drop ((sinceV p u).1.toNat + 1)).any (tcond u key kind)
theorem toList_injE {a b : ByteArray} (h : a.toList = b.toList) : a = b := by
  rw [ByteArray.toList_eq, ByteArray.toList_eq] at h; cases a; cases b; simpa using h
theorem ref_touched_from (l : List S43) (n : Nat) (u : Int) (key : ByteArray) (kind at_ : Int) (ha : 0 ≤ at_) (hn : n ≤ l.length) (hl : l.length ≤ 9223372036854775807) : ∀ (d i : Nat), d = n - i → i ≤ n →
    Ev (fun k => ringworkref25_touched.l0 k l (n : Int) u key kind at_ (i : Int)) (((l.take n).drop i).any (tcond u key kind))
  | 0, i, hd, hi => by
    have : i = n := by omega
    subst this
    refine Ev.step (fun k => by rw [ringworkref25_touched.l0, if_pos ha, decide_eq_false (show ¬ ((i : Int) < (i : Int)) by omega)]) ?_
    refine Ev.step (fun k => by rw [ringworkref25_touched.j1, if_neg (by decide)]) ?_
    rw [List.drop_eq_nil_of_le (by rw [List.length_take]; omega)]
    exact Ev.val _
  | d + 1, i, hd, hi => by
    have hlt : i < n := by omega
    have next : Ev (fun k => ringworkref25_touched.l0 k l (n : Int) u key kind at_ (wrap64 ((i : Int) + 1))) (((l.take n).drop (i + 1)).any (tcond u key kind)) := by
      rw [wrap_next' (show i < l.length by omega) hl]
      exact ref_touched_from l n u key kind at_ ha hn hl d (i + 1) (by omega) (by omega)
    rw [rd_take hlt hn, List.any_cons]
    refine Ev.step (fun k => by rw [ringworkref25_touched.l0, if_pos ha, decide_eq_true (show (i : Int) < (n : Int) by omega)]) ?_
    refine Ev.step (fun k => by rw [ringworkref25_touched.j1, if_pos rfl, if_pos (by omega), if_pos (by omega)]) ?_
    generalize rd_T43 l (i : Int) = x
    by_cases h1 : x.f1 = u
    · simp only [if_pos h1]
      by_cases h2 : x.f2 = key
      · simp only [if_pos (show x.f2.toList = key.toList by rw [h2])]
        by_cases hk : x.f0 = 2 ∨ x.f0 = 3
        · by_cases hd2 : kind = 0 ∨ x.f0 = kind
          · rw [show tcond u key kind x = true from decide_eq_true ⟨h1, h2, hk, hd2⟩, Bool.true_or]
            have hv : ∀ g : Nat → Option Bool, Ev (fun k => if kind = 0 then some true else if x.f0 = kind then some true else g k) true := fun g => by
              by_cases hz : kind = 0
              · simp only [if_pos hz]; exact Ev.val _
              · simp only [if_neg hz, if_pos (hd2.resolve_left hz)]; exact Ev.val _
            rcases hk with hk | hk
            · simp only [if_pos hk]; exact hv _
            · simp only [if_neg (show ¬ x.f0 = 2 by omega), if_pos hk]; exact hv _
          · rw [show tcond u key kind x = false from decide_eq_false (fun h => hd2 h.2.2.2), Bool.false_or]
            have hz : ¬ kind = 0 := fun h => hd2 (.inl h)
            have hz2 : ¬ x.f0 = kind := fun h => hd2 (.inr h)
            rcases hk with hk | hk
            · simp only [if_pos hk, if_neg hz, if_neg hz2]; exact next
            · simp only [if_neg (show ¬ x.f0 = 2 by omega), if_pos hk, if_neg hz, if_neg hz2]; exact next
        · rw [show tcond u key kind x = false from decide_eq_false (fun h => hk h.2.2.1), Bool.false_or]
          simp only [if_neg (show ¬ x.f0 = 2 by omega), if_neg (show ¬ x.f0 = 3 by omega)]
          exact next
      · rw [show tcond u key kind x = false from decide_eq_false (fun h => h2 h.2.1), Bool.false_or]
        simp only [if_neg (show ¬ x.f2.toList = key.toList from fun h => h2 (toList_injE h))]
        exact next
    · rw [show tcond u key kind x = false from decide_eq_false (fun h => h1 h.1), Bool.false_or]
      simp only [if_neg h1]
      exact next
theorem since_in {p : List S43} {u : Int} (h : (sinceV p u).2 = true) : 0 ≤ (sinceV p u).1 ∧ (sinceV p u).1 < p.length := by
  have := since_range u p 0 (0, false) h (fun h => by cases h)
  simpa [sinceV] using this
theorem ref_touched (l : List S43) (n : Nat) (u : Int) (key : ByteArray) (kind : Int) (hn : n ≤ l.length) (hl : l.length ≤ 9223372036854775807) : Ev (fun k => ringworkref25_touched.f k l (n : Int) u key kind) (touchedV (l.take n) u key kind) := by
  unfold ringworkref25_touched.f touchedV
  refine Ev.bind (ref_since l n u hn hl) ?_
  cases hs : (sinceV (l.take n) u).2 with
  | false =>
    rw [Bool.false_and, show atI (sinceV (l.take n) u) = -1 by unfold atI; rw [if_neg (by rw [hs]; decide)]]
    refine Ev.step (fun k => by rw [ringworkref25_touched.l0, if_neg (by decide)]) ?_
    exact Ev.step (fun k => by rw [ringworkref25_touched.j1, if_neg (by decide)]) (Ev.val _)
  | true =>
    have hr := since_in hs
    rw [List.length_take] at hr
    rw [Bool.true_and, show atI (sinceV (l.take n) u) = (((sinceV (l.take n) u).1.toNat : Nat) : Int) by unfold atI; rw [if_pos hs]; omega]
    have := ref_touched_from l n u key kind ((sinceV (l.take n) u).1.toNat : Int) (by omega) hn hl (n - ((sinceV (l.take n) u).1.toNat + 1)) ((sinceV (l.take n) u).1.toNat + 1) rfl (by omega)
    rw [wrap_next' (show (sinceV (l.take n) u).1.toNat < l.length by omega) hl]
    exact this
theorem sinceFrom_append (u : Int) : ∀ (a b : List S43) (i : Nat) (st : Int × Bool), sinceFrom u (a ++ b) i st = sinceFrom u b (i + a.length) (sinceFrom u a i st)
  | [], b, i, st => rfl
  | n :: a, b, i, st => by
    rw [List.cons_append, sinceFrom, sinceFrom_append u a b (i + 1), sinceFrom]
    congr 1
    simp only [List.length_cons]; omega
theorem since_snoc (u : Int) (p : List S43) (n : S43) : sinceV (p ++ [n]) u = sinceStep u (sinceV p u) p.length n := by
  unfold sinceV
  rw [sinceFrom_append]
  show sinceStep u _ (0 + p.length) n = _
  rw [Nat.zero_add]
theorem touched_snoc (p : List S43) (n : S43) (u : Int) (key : ByteArray) (kind : Int) :
    touchedV (p ++ [n]) u key kind = if n.f1 = u ∧ n.f0 ≠ 6 ∧ (n.f0 = 1 ∨ n.f0 = 4 ∨ n.f0 = 5 ∨ n.f0 = 7) then false else (touchedV p u key kind || ((sinceV p u).2 && tcond u key kind n)) := by
  unfold touchedV
  rw [since_snoc]
  by_cases h1 : n.f1 = u
  · by_cases h6 : n.f0 = 6
    · rw [show sinceStep u (sinceV p u) p.length n = sinceV p u by unfold sinceStep; rw [if_pos h1, if_pos h6], if_neg (fun h => h.2.1 h6)]
      cases hs : (sinceV p u).2
      · simp
      · have hr := since_in hs
        rw [List.drop_append_of_le_length (by omega), List.any_append]
        simp
    · by_cases hq : n.f0 = 1 ∨ n.f0 = 4
      · rw [show sinceStep u (sinceV p u) p.length n = ((p.length : Int), true) by unfold sinceStep; rw [if_pos h1, if_neg h6, if_pos hq], if_pos ⟨h1, h6, by omega⟩]
        simp
      · by_cases h5 : n.f0 = 5 ∨ n.f0 = 7
        · rw [show sinceStep u (sinceV p u) p.length n = ((sinceV p u).1, false) by unfold sinceStep; rw [if_pos h1, if_neg h6, if_neg hq, if_pos h5], if_pos ⟨h1, h6, by omega⟩]
          simp
        · rw [show sinceStep u (sinceV p u) p.length n = sinceV p u by unfold sinceStep; rw [if_pos h1, if_neg h6, if_neg hq, if_neg h5], if_neg (fun h => by omega)]
          cases hs : (sinceV p u).2
          · simp
          · have hr := since_in hs
            rw [List.drop_append_of_le_length (by omega), List.any_append]
            simp
  · rw [show sinceStep u (sinceV p u) p.length n = sinceV p u by unfold sinceStep; rw [if_neg h1], if_neg (fun h => h1 h.1)]
    cases hs : (sinceV p u).2
    · simp
    · have hr := since_in hs
      rw [List.drop_append_of_le_length (by omega), List.any_append]
      simp
end Go.Proofs.YteblpjnkinghoaaGreat.J
/- The contract of journal.ordered, for every slice of images. -/
namespace Go.Proofs.YteblpjnkinghoaaGreat.J
open Go.BigFrame Go.RowKit Go.Proofs.YteblpjnkinghoaaGreatW.PrintWords Go.Proofs.YteblpjnkinghoaaGreatW.PrintLast Go.Proofs.YteblpjnkinghoaaGreatW.PrintMore
theorem journal_image.some (a0 : ByteArray) (a1 : Bool) (a2 : ByteArray) : ∃ r, journal_image.f a0 a1 a2 = some r := by
  unfold journal_image.f
  repeat' (first | exact ⟨_, rfl⟩ | split)
def img (x : S48) : Bool := (journal_image.f x.f0 x.f1 x.f2).getD false
theorem img_calls (x : S48) (w : World) : Calls Tryz.prog 53 #[.agg #[.string x.f0, .bool x.f1, .string x.f2]] w fun e w' => e = .returned (.bool (img x)) ∧ Below w.heap.size w w' := by
  obtain ⟨r, h⟩ := journal_image.some x.f0 x.f1 x.f2
  have : img x = r := by unfold img; rw [h]; rfl
  rw [this]
  exact journal_image.calls _ _ _ r w h
/-- Whether the image at an index is right beside the one before it. -/
def goodAt (l : List S48) (k : Nat) : Bool := img (rd_T48 l k) && (rd_T48 l k).f1 && (decide (k = 0) || Op.bytesLess (rd_T48 l ((k : Int) - 1)).f0.toList (rd_T48 l k).f0.toList)
def journal_ordered.f (l0 : List (S48)) : Option (Bool) := some ((List.range l0.length).all (goodAt l0) && decide (l0.length ≤ 500))
theorem good_bad {l : List S48} {k : Nat} (hk : k < l.length) (h : goodAt l k = false) : ((List.range l.length).all (goodAt l) && decide (l.length ≤ 500)) = false := by
  have : (List.range l.length).all (goodAt l) = false := by
    rw [List.all_eq_false]
    exact ⟨k, List.mem_range.2 hk, by rw [h]; decide⟩
  rw [this]; rfl
theorem good_upto {l : List S48} {k : Nat} (h : (List.range k).all (goodAt l) = true) (hk : goodAt l k = true) : (List.range (k + 1)).all (goodAt l) = true := by
  rw [List.range_succ, List.all_append, h]; simp [hk]
/-- An image's cells, in every world behind. -/
theorem image_cells {w1 : World} {b : Nat} {v0 v1 v2 : Value} {t : TypeId} (hk : w1.heap[b]? = some (.cells #[v0, v1, v2] t)) :
    (∀ p : Past w1, p.W.cell? ⟨b, 0, none⟩ = some v0) ∧ (∀ p : Past w1, p.W.cell? ⟨b, 1, none⟩ = some v1) ∧ (∀ p : Past w1, p.W.cell? ⟨b, 2, none⟩ = some v2) :=
  ⟨Past.cell ((blk_cell hk 0).trans rfl), Past.cell ((blk_cell hk 1).trans rfl), Past.cell ((blk_cell hk 2).trans rfl)⟩
set_option maxHeartbeats 1000000 in
theorem journal_ordered.calls (A0 : Option Addr) (c0 : Nat) (l0 : List (S48)) (r : Bool) (w : World) (hr0 : Kd.C k48 w A0 l0.length l0) (hc0 : l0.length ≤ c0) (h : journal_ordered.f l0 = some r) :
    Calls Tryz.prog 40 #[.slice A0 l0.length c0] w fun e w' => e = .returned (.bool r) ∧ Below w.heap.size w w' := by
  have HR0 := Aside0.mk hr0
  have HF := Aside0.mk (Option.some.inj h)
  have hlm : l0.length ≤ 9223372036854775807 := Kd.C_max hr0
  clear hr0 hc0 h
  have hnot : ∀ (x : Bool) (w : World), (Op.unary .not (.bool x)).run Tryz.prog w = .ok (.bool (!x)) w := fun _ _ => rfl
  go_enter Tryz.func40, Tryz.ntmps40
  go_wp2
  go_loopg [7] (l0.length + 1) (fun kq v7 w' => ∃ k : Nat, k ≤ l0.length ∧ v7 = .int .i64 k ∧ Aside0 (kq + k = l0.length + 1) ∧ Aside0 ((List.range k).all (goodAt l0) = true) ∧ Aside0 (Below w.heap.size w w'))
  case atStart => exact ⟨0, Nat.zero_le _, rfl, ⟨by omega⟩, ⟨rfl⟩, ⟨Below.refl _ _⟩⟩
  case round =>
    obtain ⟨k, hk, rfl, HQ, HX, HB⟩ := hrel
    by_cases hlt : k < l0.length
    · obtain ⟨ad, rfl, h0, h1, h2⟩ := at_T48 (Kd.C_below HR0.out HB.out) (k : Int) (by omega) (by omega)
      rw [Int.toNat_natCast] at h0 h1 h2
      obtain ⟨x, hx⟩ : ∃ x, x = rd_T48 l0 (k : Int) := ⟨_, rfl⟩
      rw [← hx] at h0 h1 h2
      have HN := Aside0.mk (show goodAt l0 k = (img x && x.f1 && (decide (k = 0) || Op.bytesLess (rd_T48 l0 ((k : Int) - 1)).f0.toList x.f0.toList)) by rw [hx]; rfl)
      clear hx
      have HC := Aside0.mk (fun w => img_calls x w)
      go_wp2
      have hb := below_step HB.out ((Below.refl wr.heap.size wr).alloc (Nat.le_refl _) (.cells #[.string x.f0, .bool x.f1, .string x.f2] 48))
      have hk1 : (wr.alloc (.cells #[.string x.f0, .bool x.f1, .string x.f2] 48)).heap[wr.heap.size]? = some (.cells #[.string x.f0, .bool x.f1, .string x.f2] 48) := heap_alloc_new wr _
      generalize (wr.alloc (.cells #[.string x.f0, .bool x.f1, .string x.f2] 48)) = w1 at hb hk1 ⊢
      clear HB
      have HB := Aside0.mk hb
      clear hb
      obtain ⟨q0, q1, q2⟩ := image_cells hk1
      clear hk1 h0 h1 h2
      cases hi : img x
      · -- no image
        rw [hi] at HC
        have HG := Aside0.mk (show goodAt l0 k = false by rw [HN.out, hi]; rfl)
        clear hi HN
        refine wp_region_past (by kernel_rfl) (by kernel_rfl) ?_
        repeat (go_big_quiet_step (first | (go_at_call 53; exact Calls.past_of (HC.out _))))
        refine wpQuiet_nil ?_
        rintro _ ⟨p, rfl⟩
        go_wp2
        go_ret
        exact ⟨by rw [← HF.out, good_bad hlt HG.out]; rfl, below_step HB.out p.h⟩
      rw [hi] at HC
      cases hf : x.f1
      · -- nothing there
        have HG := Aside0.mk (show goodAt l0 k = false by rw [HN.out, hi, hf]; rfl)
        rw [hf] at q1 HC
        clear hi HN hf
        refine wp_region_past (by kernel_rfl) (by kernel_rfl) ?_
        repeat (go_big_quiet_step (first | (go_at_call 53; exact Calls.past_of (HC.out _))))
        refine wpQuiet_nil ?_
        rintro _ ⟨p, rfl⟩
        go_wp2
        go_ret
        exact ⟨by rw [← HF.out, good_bad hlt HG.out]; rfl, below_step HB.out p.h⟩
      rw [hf] at q1 HC
      by_cases hk0 : k = 0
      · subst hk0
        have HG := Aside0.mk (show goodAt l0 0 = true by rw [HN.out, hi, hf]; rfl)
        clear hi HN hf
        refine wp_region_past (by kernel_rfl) (by kernel_rfl) ?_
        repeat (go_big_quiet_step (first | (go_at_call 53; exact Calls.past_of (HC.out _))))
        refine wpQuiet_nil ?_
        rintro _ ⟨p, rfl⟩
        go_wp2
        go_roundg (gk - 1)
        case measure => have := HQ.out; omega
        case rel => exact ⟨1, by omega, by go_num, ⟨by have := HQ.out; omega⟩, ⟨good_upto HX.out HG.out⟩, ⟨below_step HB.out p.h⟩⟩
      obtain ⟨j, rfl⟩ : ∃ j, k = j + 1 := ⟨k - 1, by omega⟩
      obtain ⟨ad', e', g0, g1, g2⟩ := at_T48 (Kd.C_below HR0.out HB.out) (j : Int) (by omega) (by omega)
      cases e'
      rw [Int.toNat_natCast] at g0 g1 g2
      clear g1 g2
      have g := Past.cell g0
      clear g0
      have ej : ((j + 1 : Nat) : Int) - 1 = j := by omega
      rw [ej] at HN
      cases hlss : Op.bytesLess (rd_T48 l0 (j : Int)).f0.toList x.f0.toList
      · have HG := Aside0.mk (show goodAt l0 (j + 1) = false by rw [HN.out, hi, hf, hlss]; rfl)
        clear hi HN hf ej
        refine wp_region_past (by kernel_rfl) (by kernel_rfl) ?_
        repeat (go_big_quiet_step (first | (go_at_call 53; exact Calls.past_of (HC.out _))))
        refine wpQuiet_nil ?_
        rintro _ ⟨p, rfl⟩
        go_wp2
        go_ret
        exact ⟨by rw [← HF.out, good_bad hlt HG.out]; rfl, below_step HB.out p.h⟩
      · have HG := Aside0.mk (show goodAt l0 (j + 1) = true by rw [HN.out, hi, hf, hlss]; simp)
        clear hi HN hf ej
        refine wp_region_past (by kernel_rfl) (by kernel_rfl) ?_
        repeat (go_big_quiet_step (first | (go_at_call 53; exact Calls.past_of (HC.out _))))
        refine wpQuiet_nil ?_
        rintro _ ⟨p, rfl⟩
        go_wp2
        go_roundg (gk - 1)
        case measure => have := HQ.out; omega
        case rel => exact ⟨j + 1 + 1, by omega, by go_num, ⟨by have := HQ.out; omega⟩, ⟨good_upto HX.out HG.out⟩, ⟨below_step HB.out p.h⟩⟩
    · have hke : k = l0.length := by omega
      subst hke
      go_wp2
      go_ret
      exact ⟨by rw [← HF.out, HX.out]; simp; omega, HB.out⟩
end Go.Proofs.YteblpjnkinghoaaGreat.J
namespace Go.Proofs.YteblpjnkinghoaaGreat.J
open Go.RowKit Go.Proofs.YteblpjnkinghoaaGreatW.PrintWords Go.Proofs.YteblpjnkinghoaaGreatW.PrintLast Go.Proofs.YteblpjnkinghoaaGreatW.PrintMore
attribute [local go_sem] max2_int min2_int max_two min_two max_three min_three max_four min_four   -- for this text's walks alone
set_option linter.unusedVariables false
set_option linter.unusedSimpArgs false
/-! ### ringworklaw25_Notes: function 4 -/
def ringworklaw25_Notes.l0 : Nat → List (S43) → Int → Int → Option (Bool)
  | 0, _, _, _ => none
  | k + 1, x0, x3, x4 => if x4 < (x0.length : Int) then (if x4 < 60 then (if 0 ≤ x4 then (ringworklaw25_Notes.l0 k x0 (wrap64 ((wrap64 (x3 + (((rd_T43 x0 x4).f2).size : Int))) + (((rd_T43 x0 x4).f4).size : Int))) (wrap64 (x4 + 1))) else (none)) else (if (x0.length : Int) ≤ 60 then (some (decide (x3 ≤ 6000))) else (some false))) else (if (x0.length : Int) ≤ 60 then (some (decide (x3 ≤ 6000))) else (some false))
def ringworklaw25_Notes.f (k : Nat) (l0 : List (S43)) : Option (Bool) := ringworklaw25_Notes.l0 k l0 0 0
set_option maxHeartbeats 8000000 in
set_option maxRecDepth 100000 in
theorem ringworklaw25_Notes.calls (k : Nat) (A0 : Option Addr) (c0 : Nat) (l0 : List (S43)) (r : Bool) (w : World) (hr0 : Kd.C k43 w A0 l0.length l0) (hc0 : l0.length ≤ c0) (h : ringworklaw25_Notes.f k l0 = some r) :
    Calls Tryz.prog 4 #[.slice A0 l0.length c0] w fun e w' => e = .returned (.bool r) ∧ Drawn0 w w' := by
  have HR0 := Aside0.mk hr0
  have HC0 := Aside0.mk hc0
  clear hr0 hc0
  have H : (ringworklaw25_Notes.l0 k l0 0 0) = some r := h
  clear h
  have H' := Aside0.mk H
  clear H
  go_enter Tryz.func4, Tryz.ntmps4
  go_wp2
  repeat (go_quiet (fail); try go_wp2)
  go_loopg [3, 4] k (fun kq v3 v4 w' => ∃ (x3_1 : Int) (x4_1 : Int), v3 = .int .i64 x3_1 ∧ v4 = .int .i64 x4_1 ∧ Aside0 (ringworklaw25_Notes.l0 kq l0 x3_1 x4_1 = some r) ∧ Aside0 (kq ≤ k) ∧ Drawn0 w w')
  case atStart => exact ⟨(0), (0), (by first | rfl | (simp; done) | (simp [*]; done)), (by first | rfl | (simp; done) | (simp [*]; done)), H', ⟨Nat.le_refl _⟩, by repeat (first | exact Drawn0.refl _ | apply Drawn0.step)⟩
  case round =>
    clear H'
    obtain ⟨x3_1, x4_1, rfl, rfl, HA, HK1, ⟨m1, rfl⟩⟩ := hrel
    cases gk with
    | zero => exact absurd HA.out (by simp [ringworklaw25_Notes.l0])
    | succ k1 =>
      have H := HA.out
      clear HA
      simp only [ringworklaw25_Notes.l0] at H
      by_cases c2 : x4_1 < (l0.length : Int)
      · rw [if_pos c2] at H
        have c2b0 : decide (x4_1 < (l0.length : Int)) = true := decide_eq_true c2
        clear c2
        by_cases c3 : x4_1 < 60
        · rw [if_pos c3] at H
          have c3b0 : decide (x4_1 < 60) = true := decide_eq_true c3
          clear c3
          by_cases c4 : 0 ≤ x4_1
          · rw [if_pos c4] at H
            have c4b0 : decide (0 ≤ x4_1) = true := decide_eq_true c4
            clear c4
            have H' := Aside0.mk H
            clear H
            have p109 : 0 ≤ (x4_1 : Int) := of_decide_eq_true (by first | (with_reducible assumption) | assumption)
            have q109 : x4_1 < (l0.length : Int) := of_decide_eq_true (by first | (with_reducible assumption) | assumption)
            obtain ⟨ad109, e109, hx109_0, hx109_1, hx109_2, hx109_3, hx109_4⟩ := at_T43 HR0.out x4_1 p109 q109
            cases e109
            replace p109 := eq_true p109
            replace q109 := eq_true q109
            have p110 : 0 ≤ (x4_1 : Int) := of_decide_eq_true (by first | (with_reducible assumption) | assumption)
            have q110 : x4_1 < (l0.length : Int) := of_decide_eq_true (by first | (with_reducible assumption) | assumption)
            obtain ⟨ad110, e110, hx110_0, hx110_1, hx110_2, hx110_3, hx110_4⟩ := at_T43 HR0.out x4_1 p110 q110
            obtain rfl : ad109 = ad110 := (by injection e110)
            replace p110 := eq_true p110
            replace q110 := eq_true q110
            go_wp2
            repeat (go_quiet (fail); try go_wp2)
            go_roundg k1
            case measure => have := HK1.out; omega
            case rel => exact ⟨(wrap64 ((wrap64 (x3_1 + (((rd_T43 l0 x4_1).f2).size : Int))) + (((rd_T43 l0 x4_1).f4).size : Int))), (wrap64 (x4_1 + 1)), (by first | rfl | (simp; done) | (simp [*]; done)), (by first | rfl | (simp; done) | (simp [*]; done)), H', ⟨by have := HK1.out; omega⟩, by repeat (first | exact Drawn0.refl _ | apply Drawn0.step)⟩
          · rw [if_neg c4] at H
            exact absurd H (by simp)
        · rw [if_neg c3] at H
          have c3b0 : decide (x4_1 < 60) = false := decide_eq_false c3
          clear c3
          by_cases c5 : (l0.length : Int) ≤ 60
          · rw [if_pos c5] at H
            have c5b0 : decide ((l0.length : Int) ≤ 60) = true := decide_eq_true c5
            have c5b1 : decide (l0.length ≤ 60) = true := decide_eq_true (by omega)
            clear c5
            obtain rfl := Option.some.inj H
            go_wp2
            repeat (go_quiet (fail); try go_wp2)
            go_ret
            exact ⟨by first | rfl | (simp; done) | (simp [*]; done), by repeat (first | exact Drawn0.refl _ | apply Drawn0.step)⟩
          · rw [if_neg c5] at H
            have c5b0 : decide ((l0.length : Int) ≤ 60) = false := decide_eq_false c5
            have c5b1 : decide (l0.length ≤ 60) = false := decide_eq_false (by omega)
            clear c5
            obtain rfl := Option.some.inj H
            go_wp2
            repeat (go_quiet (fail); try go_wp2)
            go_ret
            exact ⟨by first | rfl | (simp; done) | (simp [*]; done), by repeat (first | exact Drawn0.refl _ | apply Drawn0.step)⟩
      · rw [if_neg c2] at H
        have c2b0 : decide (x4_1 < (l0.length : Int)) = false := decide_eq_false c2
        clear c2
        by_cases c6 : (l0.length : Int) ≤ 60
        · rw [if_pos c6] at H
          have c6b0 : decide ((l0.length : Int) ≤ 60) = true := decide_eq_true c6
          have c6b1 : decide (l0.length ≤ 60) = true := decide_eq_true (by omega)
          clear c6
          obtain rfl := Option.some.inj H
          go_wp2
          repeat (go_quiet (fail); try go_wp2)
          go_ret
          exact ⟨by first | rfl | (simp; done) | (simp [*]; done), by repeat (first | exact Drawn0.refl _ | apply Drawn0.step)⟩
        · rw [if_neg c6] at H
          have c6b0 : decide ((l0.length : Int) ≤ 60) = false := decide_eq_false c6
          have c6b1 : decide (l0.length ≤ 60) = false := decide_eq_false (by omega)
          clear c6
          obtain rfl := Option.some.inj H
          go_wp2
          repeat (go_quiet (fail); try go_wp2)
          go_ret
          exact ⟨by first | rfl | (simp; done) | (simp [*]; done), by repeat (first | exact Drawn0.refl _ | apply Drawn0.step)⟩

/-! ### ringworkref25_image: function 63 -/
def ringworkref25_image.f (a0_0 : ByteArray) (a0_1 : Bool) (a0_2 : ByteArray) : Option (Bool) := if (a0_0.size : Int) ≥ 1 then (if (a0_0.size : Int) ≤ 40 then (if (a0_2.size : Int) ≤ 4000 then (if a0_1 = true then (some true) else (some (a0_2.toList == ([] : List UInt8)))) else (some false)) else (some false)) else (some false)
set_option maxHeartbeats 8000000 in
set_option maxRecDepth 100000 in
theorem ringworkref25_image.calls (a0_0 : ByteArray) (a0_1 : Bool) (a0_2 : ByteArray) (r : Bool) (w : World) (h : ringworkref25_image.f a0_0 a0_1 a0_2 = some r) :
    Calls Tryz.prog 63 #[.agg #[.string a0_0, .bool a0_1, .string a0_2]] w fun e w' => e = .returned (.bool r) ∧ Below w.heap.size w w' := by
  have hu48 := Tryz.underlying48
  have HB := Aside0.mk (Below.refl w.heap.size w)
  have H : (if (a0_0.size : Int) ≥ 1 then (if (a0_0.size : Int) ≤ 40 then (if (a0_2.size : Int) ≤ 4000 then (if a0_1 = true then (some true) else (some (a0_2.toList == ([] : List UInt8)))) else (some false)) else (some false)) else (some false)) = some r := h
  clear h
  by_cases c2 : (a0_0.size : Int) ≥ 1
  · rw [if_pos c2] at H
    have c2b0 : decide (1 ≤ (a0_0.size : Int)) = true := decide_eq_true c2
    have c2b1 : decide (1 ≤ a0_0.size) = true := decide_eq_true (by omega)
    clear c2
    by_cases c3 : (a0_0.size : Int) ≤ 40
    · rw [if_pos c3] at H
      have c3b0 : decide ((a0_0.size : Int) ≤ 40) = true := decide_eq_true c3
      have c3b1 : decide (a0_0.size ≤ 40) = true := decide_eq_true (by omega)
      clear c3
      by_cases c4 : (a0_2.size : Int) ≤ 4000
      · rw [if_pos c4] at H
        have c4b0 : decide ((a0_2.size : Int) ≤ 4000) = true := decide_eq_true c4
        have c4b1 : decide (a0_2.size ≤ 4000) = true := decide_eq_true (by omega)
        clear c4
        by_cases c5 : a0_1 = true
        · subst c5
          have H1 : (some true) = some r := by rw [if_pos rfl] at H; exact H
          clear H
          have H := H1
          clear H1
          obtain rfl := Option.some.inj H
          go_enter Tryz.func63, Tryz.ntmps63
          go_wp2_with (first | ((with_reducible refine gate_dst (N := 1) rfl ?_); (try (refine gate_guard (by rfl) ?_; dsimp only)); refine box_event ?hg (N := 1) ?hd (cs := #[.string a0_0, .bool true, .string a0_2]) (t := 48) ?hr ?_; (case hd => rfl); (case hg => rfl); (case hr => first | (go_simp; done) | (go_simp; rfl)); intro gb111 hg w6 hbox hb; have n0_ := Aside0.mk (below_step (by repeat (first | (with_reducible first | exact HB.out | apply below_alloc | apply pw_below_drewN | apply below_drew1) | exact HB.out)) hb); have n1_ := Aside0.mk (hbox); have n2_ := Aside0.mk ((by rw [hg]; exact (below_size (by repeat (first | (with_reducible first | exact HB.out | apply below_alloc | apply pw_below_drewN | apply below_drew1) | exact HB.out))) : w.heap.size ≤ gb111)); have n3_ := Aside0.mk ((by rw [hg]; exact (below_size (by repeat (first | (with_reducible first | exact HB.out | apply below_alloc | apply pw_below_drewN | apply below_drew1) | exact HB.out))) : w.heap.size ≤ gb111)); clear HB; have HB := n0_; have BK111 := n1_; have GW111 := n2_; have GE111 := n3_; clear n0_ n1_ n2_ n3_; clear hb hbox hg; have hcz7_0 : w6.cell? ⟨gb111, 0, none⟩ = some (.string a0_0) := (blk_cell BK111.out 0).trans rfl; have hcz7_1 : w6.cell? ⟨gb111, 1, none⟩ = some (.bool true) := (blk_cell BK111.out 1).trans rfl; have hcz7_2 : w6.cell? ⟨gb111, 2, none⟩ = some (.string a0_2) := (blk_cell BK111.out 2).trans rfl; have hfz7_0 := blk_frozen BK111.out 0; have hfz7_1 := blk_frozen BK111.out 1; have hfz7_2 := blk_frozen BK111.out 2))
          go_ret
          exact ⟨by first | rfl | (simp [errW_none, errW_some] <;> rfl) | (simp [*, errW_none, errW_some] <;> rfl), by repeat (first | (with_reducible first | exact HB.out | apply below_alloc | apply pw_below_drewN | apply below_drew1 | refine below_set ?_ GE111.out) | exact HB.out)⟩
        · replace c5 := Bool.eq_false_iff.mpr c5
          subst c5
          have H1 : (some (a0_2.toList == ([] : List UInt8))) = some r := by rw [if_neg (show ¬ (false = true) by decide)] at H; exact H
          clear H
          have H := H1
          clear H1
          obtain rfl := Option.some.inj H
          go_enter Tryz.func63, Tryz.ntmps63
          go_wp2_with (first | ((with_reducible refine gate_dst (N := 1) rfl ?_); (try (refine gate_guard (by rfl) ?_; dsimp only)); refine box_event ?hg (N := 1) ?hd (cs := #[.string a0_0, .bool false, .string a0_2]) (t := 48) ?hr ?_; (case hd => rfl); (case hg => rfl); (case hr => first | (go_simp; done) | (go_simp; rfl)); intro gb111 hg w8 hbox hb; have n0_ := Aside0.mk (below_step (by repeat (first | (with_reducible first | exact HB.out | apply below_alloc | apply pw_below_drewN | apply below_drew1) | exact HB.out)) hb); have n1_ := Aside0.mk (hbox); have n2_ := Aside0.mk ((by rw [hg]; exact (below_size (by repeat (first | (with_reducible first | exact HB.out | apply below_alloc | apply pw_below_drewN | apply below_drew1) | exact HB.out))) : w.heap.size ≤ gb111)); have n3_ := Aside0.mk ((by rw [hg]; exact (below_size (by repeat (first | (with_reducible first | exact HB.out | apply below_alloc | apply pw_below_drewN | apply below_drew1) | exact HB.out))) : w.heap.size ≤ gb111)); clear HB; have HB := n0_; have BK111 := n1_; have GW111 := n2_; have GE111 := n3_; clear n0_ n1_ n2_ n3_; clear hb hbox hg; have hcz9_0 : w8.cell? ⟨gb111, 0, none⟩ = some (.string a0_0) := (blk_cell BK111.out 0).trans rfl; have hcz9_1 : w8.cell? ⟨gb111, 1, none⟩ = some (.bool false) := (blk_cell BK111.out 1).trans rfl; have hcz9_2 : w8.cell? ⟨gb111, 2, none⟩ = some (.string a0_2) := (blk_cell BK111.out 2).trans rfl; have hfz9_0 := blk_frozen BK111.out 0; have hfz9_1 := blk_frozen BK111.out 1; have hfz9_2 := blk_frozen BK111.out 2))
          go_ret
          exact ⟨by first | rfl | (simp [errW_none, errW_some] <;> rfl) | (simp [*, errW_none, errW_some] <;> rfl), by repeat (first | (with_reducible first | exact HB.out | apply below_alloc | apply pw_below_drewN | apply below_drew1 | refine below_set ?_ GE111.out) | exact HB.out)⟩
      · rw [if_neg c4] at H
        have c4b0 : decide ((a0_2.size : Int) ≤ 4000) = false := decide_eq_false c4
        have c4b1 : decide (a0_2.size ≤ 4000) = false := decide_eq_false (by omega)
        clear c4
        obtain rfl := Option.some.inj H
        go_enter Tryz.func63, Tryz.ntmps63
        go_wp2_with (first | ((with_reducible refine gate_dst (N := 1) rfl ?_); (try (refine gate_guard (by rfl) ?_; dsimp only)); refine box_event ?hg (N := 1) ?hd (cs := #[.string a0_0, .bool a0_1, .string a0_2]) (t := 48) ?hr ?_; (case hd => rfl); (case hg => rfl); (case hr => first | (go_simp; done) | (go_simp; rfl)); intro gb111 hg w10 hbox hb; have n0_ := Aside0.mk (below_step (by repeat (first | (with_reducible first | exact HB.out | apply below_alloc | apply pw_below_drewN | apply below_drew1) | exact HB.out)) hb); have n1_ := Aside0.mk (hbox); have n2_ := Aside0.mk ((by rw [hg]; exact (below_size (by repeat (first | (with_reducible first | exact HB.out | apply below_alloc | apply pw_below_drewN | apply below_drew1) | exact HB.out))) : w.heap.size ≤ gb111)); have n3_ := Aside0.mk ((by rw [hg]; exact (below_size (by repeat (first | (with_reducible first | exact HB.out | apply below_alloc | apply pw_below_drewN | apply below_drew1) | exact HB.out))) : w.heap.size ≤ gb111)); clear HB; have HB := n0_; have BK111 := n1_; have GW111 := n2_; have GE111 := n3_; clear n0_ n1_ n2_ n3_; clear hb hbox hg; have hcz11_0 : w10.cell? ⟨gb111, 0, none⟩ = some (.string a0_0) := (blk_cell BK111.out 0).trans rfl; have hcz11_1 : w10.cell? ⟨gb111, 1, none⟩ = some (.bool a0_1) := (blk_cell BK111.out 1).trans rfl; have hcz11_2 : w10.cell? ⟨gb111, 2, none⟩ = some (.string a0_2) := (blk_cell BK111.out 2).trans rfl; have hfz11_0 := blk_frozen BK111.out 0; have hfz11_1 := blk_frozen BK111.out 1; have hfz11_2 := blk_frozen BK111.out 2))
        go_ret
        exact ⟨by first | rfl | (simp [errW_none, errW_some] <;> rfl) | (simp [*, errW_none, errW_some] <;> rfl), by repeat (first | (with_reducible first | exact HB.out | apply below_alloc | apply pw_below_drewN | apply below_drew1 | refine below_set ?_ GE111.out) | exact HB.out)⟩
    · rw [if_neg c3] at H
      have c3b0 : decide ((a0_0.size : Int) ≤ 40) = false := decide_eq_false c3
      have c3b1 : decide (a0_0.size ≤ 40) = false := decide_eq_false (by omega)
      clear c3
      obtain rfl := Option.some.inj H
      go_enter Tryz.func63, Tryz.ntmps63
      go_wp2_with (first | ((with_reducible refine gate_dst (N := 1) rfl ?_); (try (refine gate_guard (by rfl) ?_; dsimp only)); refine box_event ?hg (N := 1) ?hd (cs := #[.string a0_0, .bool a0_1, .string a0_2]) (t := 48) ?hr ?_; (case hd => rfl); (case hg => rfl); (case hr => first | (go_simp; done) | (go_simp; rfl)); intro gb111 hg w12 hbox hb; have n0_ := Aside0.mk (below_step (by repeat (first | (with_reducible first | exact HB.out | apply below_alloc | apply pw_below_drewN | apply below_drew1) | exact HB.out)) hb); have n1_ := Aside0.mk (hbox); have n2_ := Aside0.mk ((by rw [hg]; exact (below_size (by repeat (first | (with_reducible first | exact HB.out | apply below_alloc | apply pw_below_drewN | apply below_drew1) | exact HB.out))) : w.heap.size ≤ gb111)); have n3_ := Aside0.mk ((by rw [hg]; exact (below_size (by repeat (first | (with_reducible first | exact HB.out | apply below_alloc | apply pw_below_drewN | apply below_drew1) | exact HB.out))) : w.heap.size ≤ gb111)); clear HB; have HB := n0_; have BK111 := n1_; have GW111 := n2_; have GE111 := n3_; clear n0_ n1_ n2_ n3_; clear hb hbox hg; have hcz13_0 : w12.cell? ⟨gb111, 0, none⟩ = some (.string a0_0) := (blk_cell BK111.out 0).trans rfl; have hcz13_1 : w12.cell? ⟨gb111, 1, none⟩ = some (.bool a0_1) := (blk_cell BK111.out 1).trans rfl; have hcz13_2 : w12.cell? ⟨gb111, 2, none⟩ = some (.string a0_2) := (blk_cell BK111.out 2).trans rfl; have hfz13_0 := blk_frozen BK111.out 0; have hfz13_1 := blk_frozen BK111.out 1; have hfz13_2 := blk_frozen BK111.out 2))
      go_ret
      exact ⟨by first | rfl | (simp [errW_none, errW_some] <;> rfl) | (simp [*, errW_none, errW_some] <;> rfl), by repeat (first | (with_reducible first | exact HB.out | apply below_alloc | apply pw_below_drewN | apply below_drew1 | refine below_set ?_ GE111.out) | exact HB.out)⟩
  · rw [if_neg c2] at H
    have c2b0 : decide (1 ≤ (a0_0.size : Int)) = false := decide_eq_false c2
    have c2b1 : decide (1 ≤ a0_0.size) = false := decide_eq_false (by omega)
    clear c2
    obtain rfl := Option.some.inj H
    go_enter Tryz.func63, Tryz.ntmps63
    go_wp2_with (first | ((with_reducible refine gate_dst (N := 1) rfl ?_); (try (refine gate_guard (by rfl) ?_; dsimp only)); refine box_event ?hg (N := 1) ?hd (cs := #[.string a0_0, .bool a0_1, .string a0_2]) (t := 48) ?hr ?_; (case hd => rfl); (case hg => rfl); (case hr => first | (go_simp; done) | (go_simp; rfl)); intro gb111 hg w14 hbox hb; have n0_ := Aside0.mk (below_step (by repeat (first | (with_reducible first | exact HB.out | apply below_alloc | apply pw_below_drewN | apply below_drew1) | exact HB.out)) hb); have n1_ := Aside0.mk (hbox); have n2_ := Aside0.mk ((by rw [hg]; exact (below_size (by repeat (first | (with_reducible first | exact HB.out | apply below_alloc | apply pw_below_drewN | apply below_drew1) | exact HB.out))) : w.heap.size ≤ gb111)); have n3_ := Aside0.mk ((by rw [hg]; exact (below_size (by repeat (first | (with_reducible first | exact HB.out | apply below_alloc | apply pw_below_drewN | apply below_drew1) | exact HB.out))) : w.heap.size ≤ gb111)); clear HB; have HB := n0_; have BK111 := n1_; have GW111 := n2_; have GE111 := n3_; clear n0_ n1_ n2_ n3_; clear hb hbox hg; have hcz15_0 : w14.cell? ⟨gb111, 0, none⟩ = some (.string a0_0) := (blk_cell BK111.out 0).trans rfl; have hcz15_1 : w14.cell? ⟨gb111, 1, none⟩ = some (.bool a0_1) := (blk_cell BK111.out 1).trans rfl; have hcz15_2 : w14.cell? ⟨gb111, 2, none⟩ = some (.string a0_2) := (blk_cell BK111.out 2).trans rfl; have hfz15_0 := blk_frozen BK111.out 0; have hfz15_1 := blk_frozen BK111.out 1; have hfz15_2 := blk_frozen BK111.out 2))
    go_ret
    exact ⟨by first | rfl | (simp [errW_none, errW_some] <;> rfl) | (simp [*, errW_none, errW_some] <;> rfl), by repeat (first | (with_reducible first | exact HB.out | apply below_alloc | apply pw_below_drewN | apply below_drew1 | refine below_set ?_ GE111.out) | exact HB.out)⟩

end Go.Proofs.YteblpjnkinghoaaGreat.J
/- Small words on strings and lists of images. -/
namespace Go.Proofs.YteblpjnkinghoaaGreat.J
open Go.BigFrame Go.RowKit Go.Proofs.YteblpjnkinghoaaGreatW.PrintWords Go.Proofs.YteblpjnkinghoaaGreatW.PrintLast Go.Proofs.YteblpjnkinghoaaGreatW.PrintMore
theorem toList_length (s : ByteArray) : s.toList.length = s.size := by rw [ByteArray.toList_eq, data_length]
theorem toList_nil_iff (s : ByteArray) : s.toList = [] ↔ s.size = 0 := by
  rw [← toList_length]; exact List.length_eq_zero_iff.symm
/-- The two programs' images are one. -/
theorem rimg (x : S48) : ringworkref25_image.f x.f0 x.f1 x.f2 = some (img x) := by
  unfold img journal_image.f ringworkref25_image.f
  by_cases h0 : x.f0.toList = []
  · rw [if_pos h0, if_neg (by have := (toList_nil_iff _).1 h0; omega)]; rfl
  · rw [if_neg h0, if_pos (by have : x.f0.size ≠ 0 := fun h => h0 ((toList_nil_iff _).2 h); omega)]
    repeat' (first | rfl | split)
theorem wrap_next {k n : Nat} (h : k < n) (hn : n ≤ 9223372036854775807) : wrap64 ((k : Int) + 1) = ((k + 1 : Nat) : Int) := by unfold wrap64; omega
theorem drop_rd48 {l0 : List S48} {k : Nat} (h : k < l0.length) : l0.drop k = rd_T48 l0 (k : Int) :: l0.drop (k + 1) := by
  have : rd_T48 l0 (k : Int) = l0[k] := by unfold rd_T48; rw [Int.toNat_natCast, List.getD_eq_getElem?_getD, List.getElem?_eq_getElem h]; rfl
  rw [this]
  exact List.drop_eq_getElem_cons h
end Go.Proofs.YteblpjnkinghoaaGreat.J
namespace Go.Proofs.YteblpjnkinghoaaGreat.J
open Go.RowKit Go.Proofs.YteblpjnkinghoaaGreatW.PrintWords Go.Proofs.YteblpjnkinghoaaGreatW.PrintLast Go.Proofs.YteblpjnkinghoaaGreatW.PrintMore
attribute [local go_sem] max2_int min2_int max_two min_two max_three min_three max_four min_four   -- for this text's walks alone
set_option linter.unusedVariables false
set_option linter.unusedSimpArgs false
/-! ### ringworkref25_Valid: function 45 -/
def ringworkref25_Valid.j0 : Nat → Int → Bool → Int → Int → ByteArray → Bool → ByteArray → Option (Bool)
  | 0, _, _, _, _, _, _, _ => none
  | k + 1, x4, x32, x113000, x113001, x113002, x113003, x113004 => if x32 = true then (if x113001 ≥ 1 then (if x113001 ≤ 1000 then ((ringworkref25_image.f x113002 x113003 x113004).bind fun t113 => (some t113)) else (some false)) else (some false)) else (if x4 = 1 then (if x113001 ≥ 1 then (if x113001 ≤ 1000 then (if x113002.toList = ([] : List UInt8) then (if x113003 = true then (some false) else (some (x113004.toList == ([] : List UInt8)))) else (some false)) else (some false)) else (some false)) else (if x4 = 4 then (if x113001 ≥ 1 then (if x113001 ≤ 1000 then (if x113002.toList = ([] : List UInt8) then (if x113003 = true then (some false) else (some (x113004.toList == ([] : List UInt8)))) else (some false)) else (some false)) else (some false)) else (if x4 = 5 then (if x113001 ≥ 1 then (if x113001 ≤ 1000 then (if x113002.toList = ([] : List UInt8) then (if x113003 = true then (some false) else (some (x113004.toList == ([] : List UInt8)))) else (some false)) else (some false)) else (some false)) else (if x4 = 7 then (if x113001 ≥ 1 then (if x113001 ≤ 1000 then (if x113002.toList = ([] : List UInt8) then (if x113003 = true then (some false) else (some (x113004.toList == ([] : List UInt8)))) else (some false)) else (some false)) else (some false)) else (some false)))))
def ringworkref25_Valid.f (k : Nat) (a0_0 : Int) (a0_1 : Int) (a0_2 : ByteArray) (a0_3 : Bool) (a0_4 : ByteArray) : Option (Bool) := if a0_0 = 6 then (if a0_1 = 0 then (if a0_2.toList = ([] : List UInt8) then (if a0_3 = true then (some false) else (if (a0_4.size : Int) ≥ 1 then (some (decide ((a0_4.size : Int) ≤ 40))) else (some false))) else (some false)) else (some false)) else (if a0_0 = 2 then (ringworkref25_Valid.j0 k a0_0 (a0_0 == 2) a0_0 a0_1 a0_2 a0_3 a0_4) else (ringworkref25_Valid.j0 k a0_0 (a0_0 == 3) a0_0 a0_1 a0_2 a0_3 a0_4))
set_option maxHeartbeats 8000000 in
set_option maxRecDepth 100000 in
theorem ringworkref25_Valid.calls (k : Nat) (a0_0 : Int) (a0_1 : Int) (a0_2 : ByteArray) (a0_3 : Bool) (a0_4 : ByteArray) (r : Bool) (w : World) (h : ringworkref25_Valid.f k a0_0 a0_1 a0_2 a0_3 a0_4 = some r) :
    Calls Tryz.prog 45 #[.agg #[.int .i64 a0_0, .int .i64 a0_1, .string a0_2, .bool a0_3, .string a0_4]] w fun e w' => e = .returned (.bool r) ∧ Below w.heap.size w w' := by
  have hu43 := Tryz.underlying43
  have hu48 := Tryz.underlying48
  have HB := Aside0.mk (Below.refl w.heap.size w)
  have H : (if a0_0 = 6 then (if a0_1 = 0 then (if a0_2.toList = ([] : List UInt8) then (if a0_3 = true then (some false) else (if (a0_4.size : Int) ≥ 1 then (some (decide ((a0_4.size : Int) ≤ 40))) else (some false))) else (some false)) else (some false)) else (if a0_0 = 2 then (ringworkref25_Valid.j0 k a0_0 (a0_0 == 2) a0_0 a0_1 a0_2 a0_3 a0_4) else (ringworkref25_Valid.j0 k a0_0 (a0_0 == 3) a0_0 a0_1 a0_2 a0_3 a0_4))) = some r := h
  clear h
  by_cases c2 : a0_0 = 6
  · rw [if_pos c2] at H
    have c2b0 : (a0_0 == 6) = true := beq_iff_eq.mpr c2
    have c2b1 : (a0_0 != 6) = false := bne_eq_false_iff_eq.mpr c2
    clear c2
    by_cases c3 : a0_1 = 0
    · rw [if_pos c3] at H
      have c3b0 : (a0_1 == 0) = true := beq_iff_eq.mpr c3
      have c3b1 : (a0_1 != 0) = false := bne_eq_false_iff_eq.mpr c3
      clear c3
      by_cases c4 : a0_2.toList = ([] : List UInt8)
      · rw [if_pos c4] at H
        have c4b0 : (a0_2.toList == ([] : List UInt8)) = true := beq_iff_eq.mpr c4
        have c4b1 : (a0_2.toList != ([] : List UInt8)) = false := bne_eq_false_iff_eq.mpr c4
        clear c4
        by_cases c5 : a0_3 = true
        · subst c5
          have H1 : (some false) = some r := by rw [if_pos rfl] at H; exact H
          clear H
          have H := H1
          clear H1
          obtain rfl := Option.some.inj H
          go_enter Tryz.func45, Tryz.ntmps45
          go_wp2_with (first | ((with_reducible refine gate_dst (N := 1) rfl ?_); (try (refine gate_guard (by rfl) ?_; dsimp only)); refine box_event ?hg (N := 1) ?hd (cs := #[.int .i64 a0_0, .int .i64 a0_1, .string a0_2, .bool true, .string a0_4]) (t := 43) ?hr ?_; (case hd => rfl); (case hg => rfl); (case hr => first | (go_simp; done) | (go_simp; rfl)); intro gb112 hg w6 hbox hb; have n0_ := Aside0.mk (below_step (by repeat (first | (with_reducible first | exact HB.out | apply below_alloc | apply pw_below_drewN | apply below_drew1) | exact HB.out)) hb); have n1_ := Aside0.mk (hbox); have n2_ := Aside0.mk ((by rw [hg]; exact (below_size (by repeat (first | (with_reducible first | exact HB.out | apply below_alloc | apply pw_below_drewN | apply below_drew1) | exact HB.out))) : w.heap.size ≤ gb112)); have n3_ := Aside0.mk ((by rw [hg]; exact (below_size (by repeat (first | (with_reducible first | exact HB.out | apply below_alloc | apply pw_below_drewN | apply below_drew1) | exact HB.out))) : w.heap.size ≤ gb112)); clear HB; have HB := n0_; have BK112 := n1_; have GW112 := n2_; have GE112 := n3_; clear n0_ n1_ n2_ n3_; clear hb hbox hg; have hcz7_0 : w6.cell? ⟨gb112, 0, none⟩ = some (.int .i64 a0_0) := (blk_cell BK112.out 0).trans rfl; have hcz7_1 : w6.cell? ⟨gb112, 1, none⟩ = some (.int .i64 a0_1) := (blk_cell BK112.out 1).trans rfl; have hcz7_2 : w6.cell? ⟨gb112, 2, none⟩ = some (.string a0_2) := (blk_cell BK112.out 2).trans rfl; have hcz7_3 : w6.cell? ⟨gb112, 3, none⟩ = some (.bool true) := (blk_cell BK112.out 3).trans rfl; have hcz7_4 : w6.cell? ⟨gb112, 4, none⟩ = some (.string a0_4) := (blk_cell BK112.out 4).trans rfl; have hfz7_0 := blk_frozen BK112.out 0; have hfz7_1 := blk_frozen BK112.out 1; have hfz7_2 := blk_frozen BK112.out 2; have hfz7_3 := blk_frozen BK112.out 3; have hfz7_4 := blk_frozen BK112.out 4))
          go_ret
          exact ⟨by first | rfl | (simp [errW_none, errW_some] <;> rfl) | (simp [*, errW_none, errW_some] <;> rfl), by repeat (first | (with_reducible first | exact HB.out | apply below_alloc | apply pw_below_drewN | apply below_drew1 | refine below_set ?_ GE112.out) | exact HB.out)⟩
        · replace c5 := Bool.eq_false_iff.mpr c5
          subst c5
          have H1 : (if (a0_4.size : Int) ≥ 1 then (some (decide ((a0_4.size : Int) ≤ 40))) else (some false)) = some r := by rw [if_neg (show ¬ (false = true) by decide)] at H; exact H
          clear H
          have H := H1
          clear H1
          by_cases c8 : (a0_4.size : Int) ≥ 1
          · rw [if_pos c8] at H
            have c8b0 : decide (1 ≤ (a0_4.size : Int)) = true := decide_eq_true c8
            have c8b1 : decide (1 ≤ a0_4.size) = true := decide_eq_true (by omega)
            clear c8
            obtain rfl := Option.some.inj H
            go_enter Tryz.func45, Tryz.ntmps45
            go_wp2_with (first | ((with_reducible refine gate_dst (N := 1) rfl ?_); (try (refine gate_guard (by rfl) ?_; dsimp only)); refine box_event ?hg (N := 1) ?hd (cs := #[.int .i64 a0_0, .int .i64 a0_1, .string a0_2, .bool false, .string a0_4]) (t := 43) ?hr ?_; (case hd => rfl); (case hg => rfl); (case hr => first | (go_simp; done) | (go_simp; rfl)); intro gb112 hg w9 hbox hb; have n0_ := Aside0.mk (below_step (by repeat (first | (with_reducible first | exact HB.out | apply below_alloc | apply pw_below_drewN | apply below_drew1) | exact HB.out)) hb); have n1_ := Aside0.mk (hbox); have n2_ := Aside0.mk ((by rw [hg]; exact (below_size (by repeat (first | (with_reducible first | exact HB.out | apply below_alloc | apply pw_below_drewN | apply below_drew1) | exact HB.out))) : w.heap.size ≤ gb112)); have n3_ := Aside0.mk ((by rw [hg]; exact (below_size (by repeat (first | (with_reducible first | exact HB.out | apply below_alloc | apply pw_below_drewN | apply below_drew1) | exact HB.out))) : w.heap.size ≤ gb112)); clear HB; have HB := n0_; have BK112 := n1_; have GW112 := n2_; have GE112 := n3_; clear n0_ n1_ n2_ n3_; clear hb hbox hg; have hcz10_0 : w9.cell? ⟨gb112, 0, none⟩ = some (.int .i64 a0_0) := (blk_cell BK112.out 0).trans rfl; have hcz10_1 : w9.cell? ⟨gb112, 1, none⟩ = some (.int .i64 a0_1) := (blk_cell BK112.out 1).trans rfl; have hcz10_2 : w9.cell? ⟨gb112, 2, none⟩ = some (.string a0_2) := (blk_cell BK112.out 2).trans rfl; have hcz10_3 : w9.cell? ⟨gb112, 3, none⟩ = some (.bool false) := (blk_cell BK112.out 3).trans rfl; have hcz10_4 : w9.cell? ⟨gb112, 4, none⟩ = some (.string a0_4) := (blk_cell BK112.out 4).trans rfl; have hfz10_0 := blk_frozen BK112.out 0; have hfz10_1 := blk_frozen BK112.out 1; have hfz10_2 := blk_frozen BK112.out 2; have hfz10_3 := blk_frozen BK112.out 3; have hfz10_4 := blk_frozen BK112.out 4))
            go_ret
            exact ⟨by first | rfl | (simp [errW_none, errW_some] <;> rfl) | (simp [*, errW_none, errW_some] <;> rfl), by repeat (first | (with_reducible first | exact HB.out | apply below_alloc | apply pw_below_drewN | apply below_drew1 | refine below_set ?_ GE112.out) | exact HB.out)⟩
          · rw [if_neg c8] at H
            have c8b0 : decide (1 ≤ (a0_4.size : Int)) = false := decide_eq_false c8
            have c8b1 : decide (1 ≤ a0_4.size) = false := decide_eq_false (by omega)
            clear c8
            obtain rfl := Option.some.inj H
            go_enter Tryz.func45, Tryz.ntmps45
            go_wp2_with (first | ((with_reducible refine gate_dst (N := 1) rfl ?_); (try (refine gate_guard (by rfl) ?_; dsimp only)); refine box_event ?hg (N := 1) ?hd (cs := #[.int .i64 a0_0, .int .i64 a0_1, .string a0_2, .bool false, .string a0_4]) (t := 43) ?hr ?_; (case hd => rfl); (case hg => rfl); (case hr => first | (go_simp; done) | (go_simp; rfl)); intro gb112 hg w11 hbox hb; have n0_ := Aside0.mk (below_step (by repeat (first | (with_reducible first | exact HB.out | apply below_alloc | apply pw_below_drewN | apply below_drew1) | exact HB.out)) hb); have n1_ := Aside0.mk (hbox); have n2_ := Aside0.mk ((by rw [hg]; exact (below_size (by repeat (first | (with_reducible first | exact HB.out | apply below_alloc | apply pw_below_drewN | apply below_drew1) | exact HB.out))) : w.heap.size ≤ gb112)); have n3_ := Aside0.mk ((by rw [hg]; exact (below_size (by repeat (first | (with_reducible first | exact HB.out | apply below_alloc | apply pw_below_drewN | apply below_drew1) | exact HB.out))) : w.heap.size ≤ gb112)); clear HB; have HB := n0_; have BK112 := n1_; have GW112 := n2_; have GE112 := n3_; clear n0_ n1_ n2_ n3_; clear hb hbox hg; have hcz12_0 : w11.cell? ⟨gb112, 0, none⟩ = some (.int .i64 a0_0) := (blk_cell BK112.out 0).trans rfl; have hcz12_1 : w11.cell? ⟨gb112, 1, none⟩ = some (.int .i64 a0_1) := (blk_cell BK112.out 1).trans rfl; have hcz12_2 : w11.cell? ⟨gb112, 2, none⟩ = some (.string a0_2) := (blk_cell BK112.out 2).trans rfl; have hcz12_3 : w11.cell? ⟨gb112, 3, none⟩ = some (.bool false) := (blk_cell BK112.out 3).trans rfl; have hcz12_4 : w11.cell? ⟨gb112, 4, none⟩ = some (.string a0_4) := (blk_cell BK112.out 4).trans rfl; have hfz12_0 := blk_frozen BK112.out 0; have hfz12_1 := blk_frozen BK112.out 1; have hfz12_2 := blk_frozen BK112.out 2; have hfz12_3 := blk_frozen BK112.out 3; have hfz12_4 := blk_frozen BK112.out 4))
            go_ret
            exact ⟨by first | rfl | (simp [errW_none, errW_some] <;> rfl) | (simp [*, errW_none, errW_some] <;> rfl), by repeat (first | (with_reducible first | exact HB.out | apply below_alloc | apply pw_below_drewN | apply below_drew1 | refine below_set ?_ GE112.out) | exact HB.out)⟩
      · rw [if_neg c4] at H
        have c4b0 : (a0_2.toList == ([] : List UInt8)) = false := beq_eq_false_iff_ne.mpr c4
        have c4b1 : (a0_2.toList != ([] : List UInt8)) = true := bne_iff_ne.mpr c4
        obtain rfl := Option.some.inj H
        go_enter Tryz.func45, Tryz.ntmps45
        go_wp2_with (first | ((with_reducible refine gate_dst (N := 1) rfl ?_); (try (refine gate_guard (by rfl) ?_; dsimp only)); refine box_event ?hg (N := 1) ?hd (cs := #[.int .i64 a0_0, .int .i64 a0_1, .string a0_2, .bool a0_3, .string a0_4]) (t := 43) ?hr ?_; (case hd => rfl); (case hg => rfl); (case hr => first | (go_simp; done) | (go_simp; rfl)); intro gb112 hg w13 hbox hb; have n0_ := Aside0.mk (below_step (by repeat (first | (with_reducible first | exact HB.out | apply below_alloc | apply pw_below_drewN | apply below_drew1) | exact HB.out)) hb); have n1_ := Aside0.mk (hbox); have n2_ := Aside0.mk ((by rw [hg]; exact (below_size (by repeat (first | (with_reducible first | exact HB.out | apply below_alloc | apply pw_below_drewN | apply below_drew1) | exact HB.out))) : w.heap.size ≤ gb112)); have n3_ := Aside0.mk ((by rw [hg]; exact (below_size (by repeat (first | (with_reducible first | exact HB.out | apply below_alloc | apply pw_below_drewN | apply below_drew1) | exact HB.out))) : w.heap.size ≤ gb112)); clear HB; have HB := n0_; have BK112 := n1_; have GW112 := n2_; have GE112 := n3_; clear n0_ n1_ n2_ n3_; clear hb hbox hg; have hcz14_0 : w13.cell? ⟨gb112, 0, none⟩ = some (.int .i64 a0_0) := (blk_cell BK112.out 0).trans rfl; have hcz14_1 : w13.cell? ⟨gb112, 1, none⟩ = some (.int .i64 a0_1) := (blk_cell BK112.out 1).trans rfl; have hcz14_2 : w13.cell? ⟨gb112, 2, none⟩ = some (.string a0_2) := (blk_cell BK112.out 2).trans rfl; have hcz14_3 : w13.cell? ⟨gb112, 3, none⟩ = some (.bool a0_3) := (blk_cell BK112.out 3).trans rfl; have hcz14_4 : w13.cell? ⟨gb112, 4, none⟩ = some (.string a0_4) := (blk_cell BK112.out 4).trans rfl; have hfz14_0 := blk_frozen BK112.out 0; have hfz14_1 := blk_frozen BK112.out 1; have hfz14_2 := blk_frozen BK112.out 2; have hfz14_3 := blk_frozen BK112.out 3; have hfz14_4 := blk_frozen BK112.out 4))
        go_ret
        exact ⟨by first | rfl | (simp [errW_none, errW_some] <;> rfl) | (simp [*, errW_none, errW_some] <;> rfl), by repeat (first | (with_reducible first | exact HB.out | apply below_alloc | apply pw_below_drewN | apply below_drew1 | refine below_set ?_ GE112.out) | exact HB.out)⟩
    · rw [if_neg c3] at H
      have c3b0 : (a0_1 == 0) = false := beq_eq_false_iff_ne.mpr c3
      have c3b1 : (a0_1 != 0) = true := bne_iff_ne.mpr c3
      obtain rfl := Option.some.inj H
      go_enter Tryz.func45, Tryz.ntmps45
      go_wp2_with (first | ((with_reducible refine gate_dst (N := 1) rfl ?_); (try (refine gate_guard (by rfl) ?_; dsimp only)); refine box_event ?hg (N := 1) ?hd (cs := #[.int .i64 a0_0, .int .i64 a0_1, .string a0_2, .bool a0_3, .string a0_4]) (t := 43) ?hr ?_; (case hd => rfl); (case hg => rfl); (case hr => first | (go_simp; done) | (go_simp; rfl)); intro gb112 hg w15 hbox hb; have n0_ := Aside0.mk (below_step (by repeat (first | (with_reducible first | exact HB.out | apply below_alloc | apply pw_below_drewN | apply below_drew1) | exact HB.out)) hb); have n1_ := Aside0.mk (hbox); have n2_ := Aside0.mk ((by rw [hg]; exact (below_size (by repeat (first | (with_reducible first | exact HB.out | apply below_alloc | apply pw_below_drewN | apply below_drew1) | exact HB.out))) : w.heap.size ≤ gb112)); have n3_ := Aside0.mk ((by rw [hg]; exact (below_size (by repeat (first | (with_reducible first | exact HB.out | apply below_alloc | apply pw_below_drewN | apply below_drew1) | exact HB.out))) : w.heap.size ≤ gb112)); clear HB; have HB := n0_; have BK112 := n1_; have GW112 := n2_; have GE112 := n3_; clear n0_ n1_ n2_ n3_; clear hb hbox hg; have hcz16_0 : w15.cell? ⟨gb112, 0, none⟩ = some (.int .i64 a0_0) := (blk_cell BK112.out 0).trans rfl; have hcz16_1 : w15.cell? ⟨gb112, 1, none⟩ = some (.int .i64 a0_1) := (blk_cell BK112.out 1).trans rfl; have hcz16_2 : w15.cell? ⟨gb112, 2, none⟩ = some (.string a0_2) := (blk_cell BK112.out 2).trans rfl; have hcz16_3 : w15.cell? ⟨gb112, 3, none⟩ = some (.bool a0_3) := (blk_cell BK112.out 3).trans rfl; have hcz16_4 : w15.cell? ⟨gb112, 4, none⟩ = some (.string a0_4) := (blk_cell BK112.out 4).trans rfl; have hfz16_0 := blk_frozen BK112.out 0; have hfz16_1 := blk_frozen BK112.out 1; have hfz16_2 := blk_frozen BK112.out 2; have hfz16_3 := blk_frozen BK112.out 3; have hfz16_4 := blk_frozen BK112.out 4))
      go_ret
      exact ⟨by first | rfl | (simp [errW_none, errW_some] <;> rfl) | (simp [*, errW_none, errW_some] <;> rfl), by repeat (first | (with_reducible first | exact HB.out | apply below_alloc | apply pw_below_drewN | apply below_drew1 | refine below_set ?_ GE112.out) | exact HB.out)⟩
  · rw [if_neg c2] at H
    have c2b0 : (a0_0 == 6) = false := beq_eq_false_iff_ne.mpr c2
    have c2b1 : (a0_0 != 6) = true := bne_iff_ne.mpr c2
    have HC17 := Aside0.mk H
    clear H
    go_enter Tryz.func45, Tryz.ntmps45
    go_upto_if 32 with (first | ((with_reducible refine gate_dst (N := 1) rfl ?_); (try (refine gate_guard (by rfl) ?_; dsimp only)); refine box_event ?hg (N := 1) ?hd (cs := #[.int .i64 a0_0, .int .i64 a0_1, .string a0_2, .bool a0_3, .string a0_4]) (t := 43) ?hr ?_; (case hd => rfl); (case hg => rfl); (case hr => first | (go_simp; done) | (go_simp; rfl)); intro gb112 hg w18 hbox hb; have n0_ := Aside0.mk (below_step (by repeat (first | (with_reducible first | exact HB.out | apply below_alloc | apply pw_below_drewN | apply below_drew1) | exact HB.out)) hb); have n1_ := Aside0.mk (hbox); have n2_ := Aside0.mk ((by rw [hg]; exact (below_size (by repeat (first | (with_reducible first | exact HB.out | apply below_alloc | apply pw_below_drewN | apply below_drew1) | exact HB.out))) : w.heap.size ≤ gb112)); have n3_ := Aside0.mk ((by rw [hg]; exact (below_size (by repeat (first | (with_reducible first | exact HB.out | apply below_alloc | apply pw_below_drewN | apply below_drew1) | exact HB.out))) : w.heap.size ≤ gb112)); clear HB; have HB := n0_; have BK112 := n1_; have GW112 := n2_; have GE112 := n3_; clear n0_ n1_ n2_ n3_; clear hb hbox hg; have hcz19_0 : w18.cell? ⟨gb112, 0, none⟩ = some (.int .i64 a0_0) := (blk_cell BK112.out 0).trans rfl; have hcz19_1 : w18.cell? ⟨gb112, 1, none⟩ = some (.int .i64 a0_1) := (blk_cell BK112.out 1).trans rfl; have hcz19_2 : w18.cell? ⟨gb112, 2, none⟩ = some (.string a0_2) := (blk_cell BK112.out 2).trans rfl; have hcz19_3 : w18.cell? ⟨gb112, 3, none⟩ = some (.bool a0_3) := (blk_cell BK112.out 3).trans rfl; have hcz19_4 : w18.cell? ⟨gb112, 4, none⟩ = some (.string a0_4) := (blk_cell BK112.out 4).trans rfl; have hfz19_0 := blk_frozen BK112.out 0; have hfz19_1 := blk_frozen BK112.out 1; have hfz19_2 := blk_frozen BK112.out 2; have hfz19_3 := blk_frozen BK112.out 3; have hfz19_4 := blk_frozen BK112.out 4))
    (try simp only [Act.put, List.setIfInBounds_toArray, List.set_cons_zero, List.set_cons_succ])
    go_cut [32] (fun v32 wc => ∃ (kq : Nat) (x32_16 : Bool), v32 = .bool x32_16 ∧ Aside0 (ringworkref25_Valid.j0 kq a0_0 x32_16 a0_0 a0_1 a0_2 a0_3 a0_4 = some r) ∧ Aside0 (kq ≤ k) ∧ Aside0 (wc.heap[gb112]? = some (.cells #[.int .i64 a0_0, .int .i64 a0_1, .string a0_2, .bool a0_3, .string a0_4] 43 (0, 0))) ∧ Aside0 (Below w.heap.size w wc))
    case first =>
      have H := HC17.out
      clear HC17
      by_cases c20 : a0_0 = 2
      · rw [if_pos c20] at H
        have c20b0 : (a0_0 == 2) = true := beq_iff_eq.mpr c20
        have c20b1 : (a0_0 != 2) = false := bne_eq_false_iff_eq.mpr c20
        clear c20
        (first | rw [c20b0] | (simp only [i64_w, i32_w]; rw [c20b0]) | skip)
        have H' := Aside0.mk H
        clear H
        go_wp2
        go_meet
        case rel => exact ⟨_, ((a0_0 == 2)), (by first | rfl | (simp; done) | (simp [*]; done)), H', ⟨by first | omega | exact Nat.le_refl _⟩, ⟨by (with_reducible repeat (first | refine blk_drewN ?_ _ | refine blk_drew ?_ | refine blk_alloc ?_ _)); exact BK112.out⟩, ⟨by repeat (first | (with_reducible first | exact HB.out | apply below_alloc | apply pw_below_drewN | apply below_drew1 | refine below_set ?_ GE112.out) | exact HB.out)⟩⟩
      · rw [if_neg c20] at H
        have c20b0 : (a0_0 == 2) = false := beq_eq_false_iff_ne.mpr c20
        have c20b1 : (a0_0 != 2) = true := bne_iff_ne.mpr c20
        (first | rw [c20b0] | (simp only [i64_w, i32_w]; rw [c20b0]) | skip)
        have H' := Aside0.mk H
        clear H
        go_wp2
        go_meet
        case rel => exact ⟨_, ((a0_0 == 3)), (by first | rfl | (simp; done) | (simp [*]; done)), H', ⟨by first | omega | exact Nat.le_refl _⟩, ⟨by (with_reducible repeat (first | refine blk_drewN ?_ _ | refine blk_drew ?_ | refine blk_alloc ?_ _)); exact BK112.out⟩, ⟨by repeat (first | (with_reducible first | exact HB.out | apply below_alloc | apply pw_below_drewN | apply below_drew1 | refine below_set ?_ GE112.out) | exact HB.out)⟩⟩
    case rest =>
      clear HC17
      try clear c2
      try clear c2b0
      try clear c2b1
      try clear p2
      try clear c3
      try clear c3b0
      try clear c3b1
      try clear c4
      try clear c4b0
      try clear c4b1
      try clear c5
      try clear c8
      try clear c8b0
      try clear c8b1
      try clear c20
      try clear c20b0
      try clear c20b1
      try clear hcz10_0
      try clear hcz10_1
      try clear hcz10_2
      try clear hcz10_3
      try clear hcz10_4
      try clear hcz12_0
      try clear hcz12_1
      try clear hcz12_2
      try clear hcz12_3
      try clear hcz12_4
      try clear hcz14_0
      try clear hcz14_1
      try clear hcz14_2
      try clear hcz14_3
      try clear hcz14_4
      try clear hcz16_0
      try clear hcz16_1
      try clear hcz16_2
      try clear hcz16_3
      try clear hcz16_4
      try clear hcz19_0
      try clear hcz19_1
      try clear hcz19_2
      try clear hcz19_3
      try clear hcz19_4
      try clear hcz7_0
      try clear hcz7_1
      try clear hcz7_2
      try clear hcz7_3
      try clear hcz7_4
      try clear hfz10_0
      try clear hfz10_1
      try clear hfz10_2
      try clear hfz10_3
      try clear hfz10_4
      try clear hfz12_0
      try clear hfz12_1
      try clear hfz12_2
      try clear hfz12_3
      try clear hfz12_4
      try clear hfz14_0
      try clear hfz14_1
      try clear hfz14_2
      try clear hfz14_3
      try clear hfz14_4
      try clear hfz16_0
      try clear hfz16_1
      try clear hfz16_2
      try clear hfz16_3
      try clear hfz16_4
      try clear hfz19_0
      try clear hfz19_1
      try clear hfz19_2
      try clear hfz19_3
      try clear hfz19_4
      try clear hfz7_0
      try clear hfz7_1
      try clear hfz7_2
      try clear hfz7_3
      try clear hfz7_4
      obtain ⟨kq, x32_16, rfl, HA, HJ16, BK112, HB⟩ := hcut
      cases kq with
      | zero => exact absurd HA.out (by simp [ringworkref25_Valid.j0])
      | succ kj16 =>
        have H := HA.out
        clear HA
        simp only [ringworkref25_Valid.j0] at H
        by_cases c21 : x32_16 = true
        · subst c21
          have H1 : (if a0_1 ≥ 1 then (if a0_1 ≤ 1000 then ((ringworkref25_image.f a0_2 a0_3 a0_4).bind fun t113 => (some t113)) else (some false)) else (some false)) = some r := by rw [if_pos rfl] at H; exact H
          clear H
          have H := H1
          clear H1
          by_cases c22 : a0_1 ≥ 1
          · rw [if_pos c22] at H
            have c22b0 : decide (1 ≤ a0_1) = true := decide_eq_true c22
            clear c22
            by_cases c23 : a0_1 ≤ 1000
            · rw [if_pos c23] at H
              have c23b0 : decide (a0_1 ≤ 1000) = true := decide_eq_true c23
              clear c23
              replace H := Option.bind_eq_some_iff.mp H
              obtain ⟨t113, A240, H⟩ := H
              replace H : (some t113) = some r := H
              have A24 := Aside0.mk A240
              clear A240
              obtain rfl := Option.some.inj H
              have hcz25_0 : wc.cell? ⟨gb112, 0, none⟩ = some (.int .i64 a0_0) := (blk_cell BK112.out 0).trans rfl
              have hcz25_1 : wc.cell? ⟨gb112, 1, none⟩ = some (.int .i64 a0_1) := (blk_cell BK112.out 1).trans rfl
              have hcz25_2 : wc.cell? ⟨gb112, 2, none⟩ = some (.string a0_2) := (blk_cell BK112.out 2).trans rfl
              have hcz25_3 : wc.cell? ⟨gb112, 3, none⟩ = some (.bool a0_3) := (blk_cell BK112.out 3).trans rfl
              have hcz25_4 : wc.cell? ⟨gb112, 4, none⟩ = some (.string a0_4) := (blk_cell BK112.out 4).trans rfl
              have hfz25_0 := blk_frozen BK112.out 0
              have hfz25_1 := blk_frozen BK112.out 1
              have hfz25_2 := blk_frozen BK112.out 2
              have hfz25_3 := blk_frozen BK112.out 3
              have hfz25_4 := blk_frozen BK112.out 4
              go_wp2_with (first | (go_at_call 63; (with_reducible refine (ringworkref25_image.calls a0_2 a0_3 a0_4 t113 _ A24.out).mono ?_); rintro e w26 ⟨rfl, hb⟩; have n0_ := Aside0.mk (blk_below (g := gb112) (o := .cells #[.int .i64 a0_0, .int .i64 a0_1, .string a0_2, .bool a0_3, .string a0_4] 43 (0, 0)) (by (with_reducible repeat (first | refine blk_drewN ?_ _ | refine blk_drew ?_ | refine blk_alloc ?_ _)); exact BK112.out) hb); have n1_ := Aside0.mk (below_step (by repeat (first | (with_reducible first | exact HB.out | apply below_alloc | apply pw_below_drewN | apply below_drew1 | refine below_set ?_ GE112.out) | exact HB.out)) hb); clear BK112; clear HB; have BK112 := n0_; have HB := n1_; clear n0_ n1_; (try clear hb); (try clear hb2); (try clear hk); (try clear hi)))
              go_ret
              exact ⟨by first | rfl | (simp [errW_none, errW_some] <;> rfl) | (simp [*, errW_none, errW_some] <;> rfl), by repeat (first | (with_reducible first | exact HB.out | apply below_alloc | apply pw_below_drewN | apply below_drew1 | refine below_set ?_ GE112.out) | exact HB.out)⟩
            · rw [if_neg c23] at H
              have c23b0 : decide (a0_1 ≤ 1000) = false := decide_eq_false c23
              clear c23
              obtain rfl := Option.some.inj H
              have hcz27_0 : wc.cell? ⟨gb112, 0, none⟩ = some (.int .i64 a0_0) := (blk_cell BK112.out 0).trans rfl
              have hcz27_1 : wc.cell? ⟨gb112, 1, none⟩ = some (.int .i64 a0_1) := (blk_cell BK112.out 1).trans rfl
              have hcz27_2 : wc.cell? ⟨gb112, 2, none⟩ = some (.string a0_2) := (blk_cell BK112.out 2).trans rfl
              have hcz27_3 : wc.cell? ⟨gb112, 3, none⟩ = some (.bool a0_3) := (blk_cell BK112.out 3).trans rfl
              have hcz27_4 : wc.cell? ⟨gb112, 4, none⟩ = some (.string a0_4) := (blk_cell BK112.out 4).trans rfl
              have hfz27_0 := blk_frozen BK112.out 0
              have hfz27_1 := blk_frozen BK112.out 1
              have hfz27_2 := blk_frozen BK112.out 2
              have hfz27_3 := blk_frozen BK112.out 3
              have hfz27_4 := blk_frozen BK112.out 4
              go_wp2
              go_ret
              exact ⟨by first | rfl | (simp [errW_none, errW_some] <;> rfl) | (simp [*, errW_none, errW_some] <;> rfl), by repeat (first | (with_reducible first | exact HB.out | apply below_alloc | apply pw_below_drewN | apply below_drew1 | refine below_set ?_ GE112.out) | exact HB.out)⟩
          · rw [if_neg c22] at H
            have c22b0 : decide (1 ≤ a0_1) = false := decide_eq_false c22
            clear c22
            obtain rfl := Option.some.inj H
            have hcz28_0 : wc.cell? ⟨gb112, 0, none⟩ = some (.int .i64 a0_0) := (blk_cell BK112.out 0).trans rfl
            have hcz28_1 : wc.cell? ⟨gb112, 1, none⟩ = some (.int .i64 a0_1) := (blk_cell BK112.out 1).trans rfl
            have hcz28_2 : wc.cell? ⟨gb112, 2, none⟩ = some (.string a0_2) := (blk_cell BK112.out 2).trans rfl
            have hcz28_3 : wc.cell? ⟨gb112, 3, none⟩ = some (.bool a0_3) := (blk_cell BK112.out 3).trans rfl
            have hcz28_4 : wc.cell? ⟨gb112, 4, none⟩ = some (.string a0_4) := (blk_cell BK112.out 4).trans rfl
            have hfz28_0 := blk_frozen BK112.out 0
            have hfz28_1 := blk_frozen BK112.out 1
            have hfz28_2 := blk_frozen BK112.out 2
            have hfz28_3 := blk_frozen BK112.out 3
            have hfz28_4 := blk_frozen BK112.out 4
            go_wp2
            go_ret
            exact ⟨by first | rfl | (simp [errW_none, errW_some] <;> rfl) | (simp [*, errW_none, errW_some] <;> rfl), by repeat (first | (with_reducible first | exact HB.out | apply below_alloc | apply pw_below_drewN | apply below_drew1 | refine below_set ?_ GE112.out) | exact HB.out)⟩
        · replace c21 := Bool.eq_false_iff.mpr c21
          subst c21
          have H1 : (if a0_0 = 1 then (if a0_1 ≥ 1 then (if a0_1 ≤ 1000 then (if a0_2.toList = ([] : List UInt8) then (if a0_3 = true then (some false) else (some (a0_4.toList == ([] : List UInt8)))) else (some false)) else (some false)) else (some false)) else (if a0_0 = 4 then (if a0_1 ≥ 1 then (if a0_1 ≤ 1000 then (if a0_2.toList = ([] : List UInt8) then (if a0_3 = true then (some false) else (some (a0_4.toList == ([] : List UInt8)))) else (some false)) else (some false)) else (some false)) else (if a0_0 = 5 then (if a0_1 ≥ 1 then (if a0_1 ≤ 1000 then (if a0_2.toList = ([] : List UInt8) then (if a0_3 = true then (some false) else (some (a0_4.toList == ([] : List UInt8)))) else (some false)) else (some false)) else (some false)) else (if a0_0 = 7 then (if a0_1 ≥ 1 then (if a0_1 ≤ 1000 then (if a0_2.toList = ([] : List UInt8) then (if a0_3 = true then (some false) else (some (a0_4.toList == ([] : List UInt8)))) else (some false)) else (some false)) else (some false)) else (some false))))) = some r := by rw [if_neg (show ¬ (false = true) by decide)] at H; exact H
          clear H
          have H := H1
          clear H1
          by_cases c29 : a0_0 = 1
          · rw [if_pos c29] at H
            have c29b0 : (a0_0 == 1) = true := beq_iff_eq.mpr c29
            have c29b1 : (a0_0 != 1) = false := bne_eq_false_iff_eq.mpr c29
            clear c29
            by_cases c30 : a0_1 ≥ 1
            · rw [if_pos c30] at H
              have c30b0 : decide (1 ≤ a0_1) = true := decide_eq_true c30
              clear c30
              by_cases c31 : a0_1 ≤ 1000
              · rw [if_pos c31] at H
                have c31b0 : decide (a0_1 ≤ 1000) = true := decide_eq_true c31
                clear c31
                by_cases c32 : a0_2.toList = ([] : List UInt8)
                · rw [if_pos c32] at H
                  have c32b0 : (a0_2.toList == ([] : List UInt8)) = true := beq_iff_eq.mpr c32
                  have c32b1 : (a0_2.toList != ([] : List UInt8)) = false := bne_eq_false_iff_eq.mpr c32
                  clear c32
                  by_cases c33 : a0_3 = true
                  · subst c33
                    have H1 : (some false) = some r := by rw [if_pos rfl] at H; exact H
                    clear H
                    have H := H1
                    clear H1
                    obtain rfl := Option.some.inj H
                    have hcz34_0 : wc.cell? ⟨gb112, 0, none⟩ = some (.int .i64 a0_0) := (blk_cell BK112.out 0).trans rfl
                    have hcz34_1 : wc.cell? ⟨gb112, 1, none⟩ = some (.int .i64 a0_1) := (blk_cell BK112.out 1).trans rfl
                    have hcz34_2 : wc.cell? ⟨gb112, 2, none⟩ = some (.string a0_2) := (blk_cell BK112.out 2).trans rfl
                    have hcz34_3 : wc.cell? ⟨gb112, 3, none⟩ = some (.bool true) := (blk_cell BK112.out 3).trans rfl
                    have hcz34_4 : wc.cell? ⟨gb112, 4, none⟩ = some (.string a0_4) := (blk_cell BK112.out 4).trans rfl
                    have hfz34_0 := blk_frozen BK112.out 0
                    have hfz34_1 := blk_frozen BK112.out 1
                    have hfz34_2 := blk_frozen BK112.out 2
                    have hfz34_3 := blk_frozen BK112.out 3
                    have hfz34_4 := blk_frozen BK112.out 4
                    go_wp2
                    go_ret
                    exact ⟨by first | rfl | (simp [errW_none, errW_some] <;> rfl) | (simp [*, errW_none, errW_some] <;> rfl), by repeat (first | (with_reducible first | exact HB.out | apply below_alloc | apply pw_below_drewN | apply below_drew1 | refine below_set ?_ GE112.out) | exact HB.out)⟩
                  · replace c33 := Bool.eq_false_iff.mpr c33
                    subst c33
                    have H1 : (some (a0_4.toList == ([] : List UInt8))) = some r := by rw [if_neg (show ¬ (false = true) by decide)] at H; exact H
                    clear H
                    have H := H1
                    clear H1
                    obtain rfl := Option.some.inj H
                    have hcz35_0 : wc.cell? ⟨gb112, 0, none⟩ = some (.int .i64 a0_0) := (blk_cell BK112.out 0).trans rfl
                    have hcz35_1 : wc.cell? ⟨gb112, 1, none⟩ = some (.int .i64 a0_1) := (blk_cell BK112.out 1).trans rfl
                    have hcz35_2 : wc.cell? ⟨gb112, 2, none⟩ = some (.string a0_2) := (blk_cell BK112.out 2).trans rfl
                    have hcz35_3 : wc.cell? ⟨gb112, 3, none⟩ = some (.bool false) := (blk_cell BK112.out 3).trans rfl
                    have hcz35_4 : wc.cell? ⟨gb112, 4, none⟩ = some (.string a0_4) := (blk_cell BK112.out 4).trans rfl
                    have hfz35_0 := blk_frozen BK112.out 0
                    have hfz35_1 := blk_frozen BK112.out 1
                    have hfz35_2 := blk_frozen BK112.out 2
                    have hfz35_3 := blk_frozen BK112.out 3
                    have hfz35_4 := blk_frozen BK112.out 4
                    go_wp2
                    go_ret
                    exact ⟨by first | rfl | (simp [errW_none, errW_some] <;> rfl) | (simp [*, errW_none, errW_some] <;> rfl), by repeat (first | (with_reducible first | exact HB.out | apply below_alloc | apply pw_below_drewN | apply below_drew1 | refine below_set ?_ GE112.out) | exact HB.out)⟩
                · rw [if_neg c32] at H
                  have c32b0 : (a0_2.toList == ([] : List UInt8)) = false := beq_eq_false_iff_ne.mpr c32
                  have c32b1 : (a0_2.toList != ([] : List UInt8)) = true := bne_iff_ne.mpr c32
                  obtain rfl := Option.some.inj H
                  have hcz36_0 : wc.cell? ⟨gb112, 0, none⟩ = some (.int .i64 a0_0) := (blk_cell BK112.out 0).trans rfl
                  have hcz36_1 : wc.cell? ⟨gb112, 1, none⟩ = some (.int .i64 a0_1) := (blk_cell BK112.out 1).trans rfl
                  have hcz36_2 : wc.cell? ⟨gb112, 2, none⟩ = some (.string a0_2) := (blk_cell BK112.out 2).trans rfl
                  have hcz36_3 : wc.cell? ⟨gb112, 3, none⟩ = some (.bool a0_3) := (blk_cell BK112.out 3).trans rfl
                  have hcz36_4 : wc.cell? ⟨gb112, 4, none⟩ = some (.string a0_4) := (blk_cell BK112.out 4).trans rfl
                  have hfz36_0 := blk_frozen BK112.out 0
                  have hfz36_1 := blk_frozen BK112.out 1
                  have hfz36_2 := blk_frozen BK112.out 2
                  have hfz36_3 := blk_frozen BK112.out 3
                  have hfz36_4 := blk_frozen BK112.out 4
                  go_wp2
                  go_ret
                  exact ⟨by first | rfl | (simp [errW_none, errW_some] <;> rfl) | (simp [*, errW_none, errW_some] <;> rfl), by repeat (first | (with_reducible first | exact HB.out | apply below_alloc | apply pw_below_drewN | apply below_drew1 | refine below_set ?_ GE112.out) | exact HB.out)⟩
              · rw [if_neg c31] at H
                have c31b0 : decide (a0_1 ≤ 1000) = false := decide_eq_false c31
                clear c31
                obtain rfl := Option.some.inj H
                have hcz37_0 : wc.cell? ⟨gb112, 0, none⟩ = some (.int .i64 a0_0) := (blk_cell BK112.out 0).trans rfl
                have hcz37_1 : wc.cell? ⟨gb112, 1, none⟩ = some (.int .i64 a0_1) := (blk_cell BK112.out 1).trans rfl
                have hcz37_2 : wc.cell? ⟨gb112, 2, none⟩ = some (.string a0_2) := (blk_cell BK112.out 2).trans rfl
                have hcz37_3 : wc.cell? ⟨gb112, 3, none⟩ = some (.bool a0_3) := (blk_cell BK112.out 3).trans rfl
                have hcz37_4 : wc.cell? ⟨gb112, 4, none⟩ = some (.string a0_4) := (blk_cell BK112.out 4).trans rfl
                have hfz37_0 := blk_frozen BK112.out 0
                have hfz37_1 := blk_frozen BK112.out 1
                have hfz37_2 := blk_frozen BK112.out 2
                have hfz37_3 := blk_frozen BK112.out 3
                have hfz37_4 := blk_frozen BK112.out 4
                go_wp2
                go_ret
                exact ⟨by first | rfl | (simp [errW_none, errW_some] <;> rfl) | (simp [*, errW_none, errW_some] <;> rfl), by repeat (first | (with_reducible first | exact HB.out | apply below_alloc | apply pw_below_drewN | apply below_drew1 | refine below_set ?_ GE112.out) | exact HB.out)⟩
            · rw [if_neg c30] at H
              have c30b0 : decide (1 ≤ a0_1) = false := decide_eq_false c30
              clear c30
              obtain rfl := Option.some.inj H
              have hcz38_0 : wc.cell? ⟨gb112, 0, none⟩ = some (.int .i64 a0_0) := (blk_cell BK112.out 0).trans rfl
              have hcz38_1 : wc.cell? ⟨gb112, 1, none⟩ = some (.int .i64 a0_1) := (blk_cell BK112.out 1).trans rfl
              have hcz38_2 : wc.cell? ⟨gb112, 2, none⟩ = some (.string a0_2) := (blk_cell BK112.out 2).trans rfl
              have hcz38_3 : wc.cell? ⟨gb112, 3, none⟩ = some (.bool a0_3) := (blk_cell BK112.out 3).trans rfl
              have hcz38_4 : wc.cell? ⟨gb112, 4, none⟩ = some (.string a0_4) := (blk_cell BK112.out 4).trans rfl
              have hfz38_0 := blk_frozen BK112.out 0
              have hfz38_1 := blk_frozen BK112.out 1
              have hfz38_2 := blk_frozen BK112.out 2
              have hfz38_3 := blk_frozen BK112.out 3
              have hfz38_4 := blk_frozen BK112.out 4
              go_wp2
              go_ret
              exact ⟨by first | rfl | (simp [errW_none, errW_some] <;> rfl) | (simp [*, errW_none, errW_some] <;> rfl), by repeat (first | (with_reducible first | exact HB.out | apply below_alloc | apply pw_below_drewN | apply below_drew1 | refine below_set ?_ GE112.out) | exact HB.out)⟩
          · rw [if_neg c29] at H
            have c29b0 : (a0_0 == 1) = false := beq_eq_false_iff_ne.mpr c29
            have c29b1 : (a0_0 != 1) = true := bne_iff_ne.mpr c29
            by_cases c39 : a0_0 = 4
            · rw [if_pos c39] at H
              have c39b0 : (a0_0 == 4) = true := beq_iff_eq.mpr c39
              have c39b1 : (a0_0 != 4) = false := bne_eq_false_iff_eq.mpr c39
              clear c39
              by_cases c40 : a0_1 ≥ 1
              · rw [if_pos c40] at H
                have c40b0 : decide (1 ≤ a0_1) = true := decide_eq_true c40
                clear c40
                by_cases c41 : a0_1 ≤ 1000
                · rw [if_pos c41] at H
                  have c41b0 : decide (a0_1 ≤ 1000) = true := decide_eq_true c41
                  clear c41
                  by_cases c42 : a0_2.toList = ([] : List UInt8)
                  · rw [if_pos c42] at H
                    have c42b0 : (a0_2.toList == ([] : List UInt8)) = true := beq_iff_eq.mpr c42
                    have c42b1 : (a0_2.toList != ([] : List UInt8)) = false := bne_eq_false_iff_eq.mpr c42
                    clear c42
                    by_cases c43 : a0_3 = true
                    · subst c43
                      have H1 : (some false) = some r := by rw [if_pos rfl] at H; exact H
                      clear H
                      have H := H1
                      clear H1
                      obtain rfl := Option.some.inj H
                      have hcz44_0 : wc.cell? ⟨gb112, 0, none⟩ = some (.int .i64 a0_0) := (blk_cell BK112.out 0).trans rfl
                      have hcz44_1 : wc.cell? ⟨gb112, 1, none⟩ = some (.int .i64 a0_1) := (blk_cell BK112.out 1).trans rfl
                      have hcz44_2 : wc.cell? ⟨gb112, 2, none⟩ = some (.string a0_2) := (blk_cell BK112.out 2).trans rfl
                      have hcz44_3 : wc.cell? ⟨gb112, 3, none⟩ = some (.bool true) := (blk_cell BK112.out 3).trans rfl
                      have hcz44_4 : wc.cell? ⟨gb112, 4, none⟩ = some (.string a0_4) := (blk_cell BK112.out 4).trans rfl
                      have hfz44_0 := blk_frozen BK112.out 0
                      have hfz44_1 := blk_frozen BK112.out 1
                      have hfz44_2 := blk_frozen BK112.out 2
                      have hfz44_3 := blk_frozen BK112.out 3
                      have hfz44_4 := blk_frozen BK112.out 4
                      go_wp2
                      go_ret
                      exact ⟨by first | rfl | (simp [errW_none, errW_some] <;> rfl) | (simp [*, errW_none, errW_some] <;> rfl), by repeat (first | (with_reducible first | exact HB.out | apply below_alloc | apply pw_below_drewN | apply below_drew1 | refine below_set ?_ GE112.out) | exact HB.out)⟩
                    · replace c43 := Bool.eq_false_iff.mpr c43
                      subst c43
                      have H1 : (some (a0_4.toList == ([] : List UInt8))) = some r := by rw [if_neg (show ¬ (false = true) by decide)] at H; exact H
                      clear H
                      have H := H1
                      clear H1
                      obtain rfl := Option.some.inj H
                      have hcz45_0 : wc.cell? ⟨gb112, 0, none⟩ = some (.int .i64 a0_0) := (blk_cell BK112.out 0).trans rfl
                      have hcz45_1 : wc.cell? ⟨gb112, 1, none⟩ = some (.int .i64 a0_1) := (blk_cell BK112.out 1).trans rfl
                      have hcz45_2 : wc.cell? ⟨gb112, 2, none⟩ = some (.string a0_2) := (blk_cell BK112.out 2).trans rfl
                      have hcz45_3 : wc.cell? ⟨gb112, 3, none⟩ = some (.bool false) := (blk_cell BK112.out 3).trans rfl
                      have hcz45_4 : wc.cell? ⟨gb112, 4, none⟩ = some (.string a0_4) := (blk_cell BK112.out 4).trans rfl
                      have hfz45_0 := blk_frozen BK112.out 0
                      have hfz45_1 := blk_frozen BK112.out 1
                      have hfz45_2 := blk_frozen BK112.out 2
                      have hfz45_3 := blk_frozen BK112.out 3
                      have hfz45_4 := blk_frozen BK112.out 4
                      go_wp2
                      go_ret
                      exact ⟨by first | rfl | (simp [errW_none, errW_some] <;> rfl) | (simp [*, errW_none, errW_some] <;> rfl), by repeat (first | (with_reducible first | exact HB.out | apply below_alloc | apply pw_below_drewN | apply below_drew1 | refine below_set ?_ GE112.out) | exact HB.out)⟩
                  · rw [if_neg c42] at H
                    have c42b0 : (a0_2.toList == ([] : List UInt8)) = false := beq_eq_false_iff_ne.mpr c42
                    have c42b1 : (a0_2.toList != ([] : List UInt8)) = true := bne_iff_ne.mpr c42
                    obtain rfl := Option.some.inj H
                    have hcz46_0 : wc.cell? ⟨gb112, 0, none⟩ = some (.int .i64 a0_0) := (blk_cell BK112.out 0).trans rfl
                    have hcz46_1 : wc.cell? ⟨gb112, 1, none⟩ = some (.int .i64 a0_1) := (blk_cell BK112.out 1).trans rfl
                    have hcz46_2 : wc.cell? ⟨gb112, 2, none⟩ = some (.string a0_2) := (blk_cell BK112.out 2).trans rfl
                    have hcz46_3 : wc.cell? ⟨gb112, 3, none⟩ = some (.bool a0_3) := (blk_cell BK112.out 3).trans rfl
                    have hcz46_4 : wc.cell? ⟨gb112, 4, none⟩ = some (.string a0_4) := (blk_cell BK112.out 4).trans rfl
                    have hfz46_0 := blk_frozen BK112.out 0
                    have hfz46_1 := blk_frozen BK112.out 1
                    have hfz46_2 := blk_frozen BK112.out 2
                    have hfz46_3 := blk_frozen BK112.out 3
                    have hfz46_4 := blk_frozen BK112.out 4
                    go_wp2
                    go_ret
                    exact ⟨by first | rfl | (simp [errW_none, errW_some] <;> rfl) | (simp [*, errW_none, errW_some] <;> rfl), by repeat (first | (with_reducible first | exact HB.out | apply below_alloc | apply pw_below_drewN | apply below_drew1 | refine below_set ?_ GE112.out) | exact HB.out)⟩
                · rw [if_neg c41] at H
                  have c41b0 : decide (a0_1 ≤ 1000) = false := decide_eq_false c41
                  clear c41
                  obtain rfl := Option.some.inj H
                  have hcz47_0 : wc.cell? ⟨gb112, 0, none⟩ = some (.int .i64 a0_0) := (blk_cell BK112.out 0).trans rfl
                  have hcz47_1 : wc.cell? ⟨gb112, 1, none⟩ = some (.int .i64 a0_1) := (blk_cell BK112.out 1).trans rfl
                  have hcz47_2 : wc.cell? ⟨gb112, 2, none⟩ = some (.string a0_2) := (blk_cell BK112.out 2).trans rfl
                  have hcz47_3 : wc.cell? ⟨gb112, 3, none⟩ = some (.bool a0_3) := (blk_cell BK112.out 3).trans rfl
                  have hcz47_4 : wc.cell? ⟨gb112, 4, none⟩ = some (.string a0_4) := (blk_cell BK112.out 4).trans rfl
                  have hfz47_0 := blk_frozen BK112.out 0
                  have hfz47_1 := blk_frozen BK112.out 1
                  have hfz47_2 := blk_frozen BK112.out 2
                  have hfz47_3 := blk_frozen BK112.out 3
                  have hfz47_4 := blk_frozen BK112.out 4
                  go_wp2
                  go_ret
                  exact ⟨by first | rfl | (simp [errW_none, errW_some] <;> rfl) | (simp [*, errW_none, errW_some] <;> rfl), by repeat (first | (with_reducible first | exact HB.out | apply below_alloc | apply pw_below_drewN | apply below_drew1 | refine below_set ?_ GE112.out) | exact HB.out)⟩
              · rw [if_neg c40] at H
                have c40b0 : decide (1 ≤ a0_1) = false := decide_eq_false c40
                clear c40
                obtain rfl := Option.some.inj H
                have hcz48_0 : wc.cell? ⟨gb112, 0, none⟩ = some (.int .i64 a0_0) := (blk_cell BK112.out 0).trans rfl
                have hcz48_1 : wc.cell? ⟨gb112, 1, none⟩ = some (.int .i64 a0_1) := (blk_cell BK112.out 1).trans rfl
                have hcz48_2 : wc.cell? ⟨gb112, 2, none⟩ = some (.string a0_2) := (blk_cell BK112.out 2).trans rfl
                have hcz48_3 : wc.cell? ⟨gb112, 3, none⟩ = some (.bool a0_3) := (blk_cell BK112.out 3).trans rfl
                have hcz48_4 : wc.cell? ⟨gb112, 4, none⟩ = some (.string a0_4) := (blk_cell BK112.out 4).trans rfl
                have hfz48_0 := blk_frozen BK112.out 0
                have hfz48_1 := blk_frozen BK112.out 1
                have hfz48_2 := blk_frozen BK112.out 2
                have hfz48_3 := blk_frozen BK112.out 3
                have hfz48_4 := blk_frozen BK112.out 4
                go_wp2
                go_ret
                exact ⟨by first | rfl | (simp [errW_none, errW_some] <;> rfl) | (simp [*, errW_none, errW_some] <;> rfl), by repeat (first | (with_reducible first | exact HB.out | apply below_alloc | apply pw_below_drewN | apply below_drew1 | refine below_set ?_ GE112.out) | exact HB.out)⟩
            · rw [if_neg c39] at H
              have c39b0 : (a0_0 == 4) = false := beq_eq_false_iff_ne.mpr c39
              have c39b1 : (a0_0 != 4) = true := bne_iff_ne.mpr c39
              by_cases c49 : a0_0 = 5
              · rw [if_pos c49] at H
                have c49b0 : (a0_0 == 5) = true := beq_iff_eq.mpr c49
                have c49b1 : (a0_0 != 5) = false := bne_eq_false_iff_eq.mpr c49
                clear c49
                by_cases c50 : a0_1 ≥ 1
                · rw [if_pos c50] at H
                  have c50b0 : decide (1 ≤ a0_1) = true := decide_eq_true c50
                  clear c50
                  by_cases c51 : a0_1 ≤ 1000
                  · rw [if_pos c51] at H
                    have c51b0 : decide (a0_1 ≤ 1000) = true := decide_eq_true c51
                    clear c51
                    by_cases c52 : a0_2.toList = ([] : List UInt8)
                    · rw [if_pos c52] at H
                      have c52b0 : (a0_2.toList == ([] : List UInt8)) = true := beq_iff_eq.mpr c52
                      have c52b1 : (a0_2.toList != ([] : List UInt8)) = false := bne_eq_false_iff_eq.mpr c52
                      clear c52
                      by_cases c53 : a0_3 = true
                      · subst c53
                        have H1 : (some false) = some r := by rw [if_pos rfl] at H; exact H
                        clear H
                        have H := H1
                        clear H1
                        obtain rfl := Option.some.inj H
                        have hcz54_0 : wc.cell? ⟨gb112, 0, none⟩ = some (.int .i64 a0_0) := (blk_cell BK112.out 0).trans rfl
                        have hcz54_1 : wc.cell? ⟨gb112, 1, none⟩ = some (.int .i64 a0_1) := (blk_cell BK112.out 1).trans rfl
                        have hcz54_2 : wc.cell? ⟨gb112, 2, none⟩ = some (.string a0_2) := (blk_cell BK112.out 2).trans rfl
                        have hcz54_3 : wc.cell? ⟨gb112, 3, none⟩ = some (.bool true) := (blk_cell BK112.out 3).trans rfl
                        have hcz54_4 : wc.cell? ⟨gb112, 4, none⟩ = some (.string a0_4) := (blk_cell BK112.out 4).trans rfl
                        have hfz54_0 := blk_frozen BK112.out 0
                        have hfz54_1 := blk_frozen BK112.out 1
                        have hfz54_2 := blk_frozen BK112.out 2
                        have hfz54_3 := blk_frozen BK112.out 3
                        have hfz54_4 := blk_frozen BK112.out 4
                        go_wp2
                        go_ret
                        exact ⟨by first | rfl | (simp [errW_none, errW_some] <;> rfl) | (simp [*, errW_none, errW_some] <;> rfl), by repeat (first | (with_reducible first | exact HB.out | apply below_alloc | apply pw_below_drewN | apply below_drew1 | refine below_set ?_ GE112.out) | exact HB.out)⟩
                      · replace c53 := Bool.eq_false_iff.mpr c53
                        subst c53
                        have H1 : (some (a0_4.toList == ([] : List UInt8))) = some r := by rw [if_neg (show ¬ (false = true) by decide)] at H; exact H
                        clear H
                        have H := H1
                        clear H1
                        obtain rfl := Option.some.inj H
                        have hcz55_0 : wc.cell? ⟨gb112, 0, none⟩ = some (.int .i64 a0_0) := (blk_cell BK112.out 0).trans rfl
                        have hcz55_1 : wc.cell? ⟨gb112, 1, none⟩ = some (.int .i64 a0_1) := (blk_cell BK112.out 1).trans rfl
                        have hcz55_2 : wc.cell? ⟨gb112, 2, none⟩ = some (.string a0_2) := (blk_cell BK112.out 2).trans rfl
                        have hcz55_3 : wc.cell? ⟨gb112, 3, none⟩ = some (.bool false) := (blk_cell BK112.out 3).trans rfl
                        have hcz55_4 : wc.cell? ⟨gb112, 4, none⟩ = some (.string a0_4) := (blk_cell BK112.out 4).trans rfl
                        have hfz55_0 := blk_frozen BK112.out 0
                        have hfz55_1 := blk_frozen BK112.out 1
                        have hfz55_2 := blk_frozen BK112.out 2
                        have hfz55_3 := blk_frozen BK112.out 3
                        have hfz55_4 := blk_frozen BK112.out 4
                        go_wp2
                        go_ret
                        exact ⟨by first | rfl | (simp [errW_none, errW_some] <;> rfl) | (simp [*, errW_none, errW_some] <;> rfl), by repeat (first | (with_reducible first | exact HB.out | apply below_alloc | apply pw_below_drewN | apply below_drew1 | refine below_set ?_ GE112.out) | exact HB.out)⟩
                    · rw [if_neg c52] at H
                      have c52b0 : (a0_2.toList == ([] : List UInt8)) = false := beq_eq_false_iff_ne.mpr c52
                      have c52b1 : (a0_2.toList != ([] : List UInt8)) = true := bne_iff_ne.mpr c52
                      obtain rfl := Option.some.inj H
                      have hcz56_0 : wc.cell? ⟨gb112, 0, none⟩ = some (.int .i64 a0_0) := (blk_cell BK112.out 0).trans rfl
                      have hcz56_1 : wc.cell? ⟨gb112, 1, none⟩ = some (.int .i64 a0_1) := (blk_cell BK112.out 1).trans rfl
                      have hcz56_2 : wc.cell? ⟨gb112, 2, none⟩ = some (.string a0_2) := (blk_cell BK112.out 2).trans rfl
                      have hcz56_3 : wc.cell? ⟨gb112, 3, none⟩ = some (.bool a0_3) := (blk_cell BK112.out 3).trans rfl
                      have hcz56_4 : wc.cell? ⟨gb112, 4, none⟩ = some (.string a0_4) := (blk_cell BK112.out 4).trans rfl
                      have hfz56_0 := blk_frozen BK112.out 0
                      have hfz56_1 := blk_frozen BK112.out 1
                      have hfz56_2 := blk_frozen BK112.out 2
                      have hfz56_3 := blk_frozen BK112.out 3
                      have hfz56_4 := blk_frozen BK112.out 4
                      go_wp2
                      go_ret
                      exact ⟨by first | rfl | (simp [errW_none, errW_some] <;> rfl) | (simp [*, errW_none, errW_some] <;> rfl), by repeat (first | (with_reducible first | exact HB.out | apply below_alloc | apply pw_below_drewN | apply below_drew1 | refine below_set ?_ GE112.out) | exact HB.out)⟩
                  · rw [if_neg c51] at H
                    have c51b0 : decide (a0_1 ≤ 1000) = false := decide_eq_false c51
                    clear c51
                    obtain rfl := Option.some.inj H
                    have hcz57_0 : wc.cell? ⟨gb112, 0, none⟩ = some (.int .i64 a0_0) := (blk_cell BK112.out 0).trans rfl
                    have hcz57_1 : wc.cell? ⟨gb112, 1, none⟩ = some (.int .i64 a0_1) := (blk_cell BK112.out 1).trans rfl
                    have hcz57_2 : wc.cell? ⟨gb112, 2, none⟩ = some (.string a0_2) := (blk_cell BK112.out 2).trans rfl
                    have hcz57_3 : wc.cell? ⟨gb112, 3, none⟩ = some (.bool a0_3) := (blk_cell BK112.out 3).trans rfl
                    have hcz57_4 : wc.cell? ⟨gb112, 4, none⟩ = some (.string a0_4) := (blk_cell BK112.out 4).trans rfl
                    have hfz57_0 := blk_frozen BK112.out 0
                    have hfz57_1 := blk_frozen BK112.out 1
                    have hfz57_2 := blk_frozen BK112.out 2
                    have hfz57_3 := blk_frozen BK112.out 3
                    have hfz57_4 := blk_frozen BK112.out 4
                    go_wp2
                    go_ret
                    exact ⟨by first | rfl | (simp [errW_none, errW_some] <;> rfl) | (simp [*, errW_none, errW_some] <;> rfl), by repeat (first | (with_reducible first | exact HB.out | apply below_alloc | apply pw_below_drewN | apply below_drew1 | refine below_set ?_ GE112.out) | exact HB.out)⟩
                · rw [if_neg c50] at H
                  have c50b0 : decide (1 ≤ a0_1) = false := decide_eq_false c50
                  clear c50
                  obtain rfl := Option.some.inj H
                  have hcz58_0 : wc.cell? ⟨gb112, 0, none⟩ = some (.int .i64 a0_0) := (blk_cell BK112.out 0).trans rfl
                  have hcz58_1 : wc.cell? ⟨gb112, 1, none⟩ = some (.int .i64 a0_1) := (blk_cell BK112.out 1).trans rfl
                  have hcz58_2 : wc.cell? ⟨gb112, 2, none⟩ = some (.string a0_2) := (blk_cell BK112.out 2).trans rfl
                  have hcz58_3 : wc.cell? ⟨gb112, 3, none⟩ = some (.bool a0_3) := (blk_cell BK112.out 3).trans rfl
                  have hcz58_4 : wc.cell? ⟨gb112, 4, none⟩ = some (.string a0_4) := (blk_cell BK112.out 4).trans rfl
                  have hfz58_0 := blk_frozen BK112.out 0
                  have hfz58_1 := blk_frozen BK112.out 1
                  have hfz58_2 := blk_frozen BK112.out 2
                  have hfz58_3 := blk_frozen BK112.out 3
                  have hfz58_4 := blk_frozen BK112.out 4
                  go_wp2
                  go_ret
                  exact ⟨by first | rfl | (simp [errW_none, errW_some] <;> rfl) | (simp [*, errW_none, errW_some] <;> rfl), by repeat (first | (with_reducible first | exact HB.out | apply below_alloc | apply pw_below_drewN | apply below_drew1 | refine below_set ?_ GE112.out) | exact HB.out)⟩
              · rw [if_neg c49] at H
                have c49b0 : (a0_0 == 5) = false := beq_eq_false_iff_ne.mpr c49
                have c49b1 : (a0_0 != 5) = true := bne_iff_ne.mpr c49
                by_cases c59 : a0_0 = 7
                · rw [if_pos c59] at H
                  have c59b0 : (a0_0 == 7) = true := beq_iff_eq.mpr c59
                  have c59b1 : (a0_0 != 7) = false := bne_eq_false_iff_eq.mpr c59
                  clear c59
                  by_cases c60 : a0_1 ≥ 1
                  · rw [if_pos c60] at H
                    have c60b0 : decide (1 ≤ a0_1) = true := decide_eq_true c60
                    clear c60
                    by_cases c61 : a0_1 ≤ 1000
                    · rw [if_pos c61] at H
                      have c61b0 : decide (a0_1 ≤ 1000) = true := decide_eq_true c61
                      clear c61
                      by_cases c62 : a0_2.toList = ([] : List UInt8)
                      · rw [if_pos c62] at H
                        have c62b0 : (a0_2.toList == ([] : List UInt8)) = true := beq_iff_eq.mpr c62
                        have c62b1 : (a0_2.toList != ([] : List UInt8)) = false := bne_eq_false_iff_eq.mpr c62
                        clear c62
                        by_cases c63 : a0_3 = true
                        · subst c63
                          have H1 : (some false) = some r := by rw [if_pos rfl] at H; exact H
                          clear H
                          have H := H1
                          clear H1
                          obtain rfl := Option.some.inj H
                          have hcz64_0 : wc.cell? ⟨gb112, 0, none⟩ = some (.int .i64 a0_0) := (blk_cell BK112.out 0).trans rfl
                          have hcz64_1 : wc.cell? ⟨gb112, 1, none⟩ = some (.int .i64 a0_1) := (blk_cell BK112.out 1).trans rfl
                          have hcz64_2 : wc.cell? ⟨gb112, 2, none⟩ = some (.string a0_2) := (blk_cell BK112.out 2).trans rfl
                          have hcz64_3 : wc.cell? ⟨gb112, 3, none⟩ = some (.bool true) := (blk_cell BK112.out 3).trans rfl
                          have hcz64_4 : wc.cell? ⟨gb112, 4, none⟩ = some (.string a0_4) := (blk_cell BK112.out 4).trans rfl
                          have hfz64_0 := blk_frozen BK112.out 0
                          have hfz64_1 := blk_frozen BK112.out 1
                          have hfz64_2 := blk_frozen BK112.out 2
                          have hfz64_3 := blk_frozen BK112.out 3
                          have hfz64_4 := blk_frozen BK112.out 4
                          go_wp2
                          go_ret
                          exact ⟨by first | rfl | (simp [errW_none, errW_some] <;> rfl) | (simp [*, errW_none, errW_some] <;> rfl), by repeat (first | (with_reducible first | exact HB.out | apply below_alloc | apply pw_below_drewN | apply below_drew1 | refine below_set ?_ GE112.out) | exact HB.out)⟩
                        · replace c63 := Bool.eq_false_iff.mpr c63
                          subst c63
                          have H1 : (some (a0_4.toList == ([] : List UInt8))) = some r := by rw [if_neg (show ¬ (false = true) by decide)] at H; exact H
                          clear H
                          have H := H1
                          clear H1
                          obtain rfl := Option.some.inj H
                          have hcz65_0 : wc.cell? ⟨gb112, 0, none⟩ = some (.int .i64 a0_0) := (blk_cell BK112.out 0).trans rfl
                          have hcz65_1 : wc.cell? ⟨gb112, 1, none⟩ = some (.int .i64 a0_1) := (blk_cell BK112.out 1).trans rfl
                          have hcz65_2 : wc.cell? ⟨gb112, 2, none⟩ = some (.string a0_2) := (blk_cell BK112.out 2).trans rfl
                          have hcz65_3 : wc.cell? ⟨gb112, 3, none⟩ = some (.bool false) := (blk_cell BK112.out 3).trans rfl
                          have hcz65_4 : wc.cell? ⟨gb112, 4, none⟩ = some (.string a0_4) := (blk_cell BK112.out 4).trans rfl
                          have hfz65_0 := blk_frozen BK112.out 0
                          have hfz65_1 := blk_frozen BK112.out 1
                          have hfz65_2 := blk_frozen BK112.out 2
                          have hfz65_3 := blk_frozen BK112.out 3
                          have hfz65_4 := blk_frozen BK112.out 4
                          go_wp2
                          go_ret
                          exact ⟨by first | rfl | (simp [errW_none, errW_some] <;> rfl) | (simp [*, errW_none, errW_some] <;> rfl), by repeat (first | (with_reducible first | exact HB.out | apply below_alloc | apply pw_below_drewN | apply below_drew1 | refine below_set ?_ GE112.out) | exact HB.out)⟩
                      · rw [if_neg c62] at H
                        have c62b0 : (a0_2.toList == ([] : List UInt8)) = false := beq_eq_false_iff_ne.mpr c62
                        have c62b1 : (a0_2.toList != ([] : List UInt8)) = true := bne_iff_ne.mpr c62
                        obtain rfl := Option.some.inj H
                        have hcz66_0 : wc.cell? ⟨gb112, 0, none⟩ = some (.int .i64 a0_0) := (blk_cell BK112.out 0).trans rfl
                        have hcz66_1 : wc.cell? ⟨gb112, 1, none⟩ = some (.int .i64 a0_1) := (blk_cell BK112.out 1).trans rfl
                        have hcz66_2 : wc.cell? ⟨gb112, 2, none⟩ = some (.string a0_2) := (blk_cell BK112.out 2).trans rfl
                        have hcz66_3 : wc.cell? ⟨gb112, 3, none⟩ = some (.bool a0_3) := (blk_cell BK112.out 3).trans rfl
                        have hcz66_4 : wc.cell? ⟨gb112, 4, none⟩ = some (.string a0_4) := (blk_cell BK112.out 4).trans rfl
                        have hfz66_0 := blk_frozen BK112.out 0
                        have hfz66_1 := blk_frozen BK112.out 1
                        have hfz66_2 := blk_frozen BK112.out 2
                        have hfz66_3 := blk_frozen BK112.out 3
                        have hfz66_4 := blk_frozen BK112.out 4
                        go_wp2
                        go_ret
                        exact ⟨by first | rfl | (simp [errW_none, errW_some] <;> rfl) | (simp [*, errW_none, errW_some] <;> rfl), by repeat (first | (with_reducible first | exact HB.out | apply below_alloc | apply pw_below_drewN | apply below_drew1 | refine below_set ?_ GE112.out) | exact HB.out)⟩
                    · rw [if_neg c61] at H
                      have c61b0 : decide (a0_1 ≤ 1000) = false := decide_eq_false c61
                      clear c61
                      obtain rfl := Option.some.inj H
                      have hcz67_0 : wc.cell? ⟨gb112, 0, none⟩ = some (.int .i64 a0_0) := (blk_cell BK112.out 0).trans rfl
                      have hcz67_1 : wc.cell? ⟨gb112, 1, none⟩ = some (.int .i64 a0_1) := (blk_cell BK112.out 1).trans rfl
                      have hcz67_2 : wc.cell? ⟨gb112, 2, none⟩ = some (.string a0_2) := (blk_cell BK112.out 2).trans rfl
                      have hcz67_3 : wc.cell? ⟨gb112, 3, none⟩ = some (.bool a0_3) := (blk_cell BK112.out 3).trans rfl
                      have hcz67_4 : wc.cell? ⟨gb112, 4, none⟩ = some (.string a0_4) := (blk_cell BK112.out 4).trans rfl
                      have hfz67_0 := blk_frozen BK112.out 0
                      have hfz67_1 := blk_frozen BK112.out 1
                      have hfz67_2 := blk_frozen BK112.out 2
                      have hfz67_3 := blk_frozen BK112.out 3
                      have hfz67_4 := blk_frozen BK112.out 4
                      go_wp2
                      go_ret
                      exact ⟨by first | rfl | (simp [errW_none, errW_some] <;> rfl) | (simp [*, errW_none, errW_some] <;> rfl), by repeat (first | (with_reducible first | exact HB.out | apply below_alloc | apply pw_below_drewN | apply below_drew1 | refine below_set ?_ GE112.out) | exact HB.out)⟩
                  · rw [if_neg c60] at H
                    have c60b0 : decide (1 ≤ a0_1) = false := decide_eq_false c60
                    clear c60
                    obtain rfl := Option.some.inj H
                    have hcz68_0 : wc.cell? ⟨gb112, 0, none⟩ = some (.int .i64 a0_0) := (blk_cell BK112.out 0).trans rfl
                    have hcz68_1 : wc.cell? ⟨gb112, 1, none⟩ = some (.int .i64 a0_1) := (blk_cell BK112.out 1).trans rfl
                    have hcz68_2 : wc.cell? ⟨gb112, 2, none⟩ = some (.string a0_2) := (blk_cell BK112.out 2).trans rfl
                    have hcz68_3 : wc.cell? ⟨gb112, 3, none⟩ = some (.bool a0_3) := (blk_cell BK112.out 3).trans rfl
                    have hcz68_4 : wc.cell? ⟨gb112, 4, none⟩ = some (.string a0_4) := (blk_cell BK112.out 4).trans rfl
                    have hfz68_0 := blk_frozen BK112.out 0
                    have hfz68_1 := blk_frozen BK112.out 1
                    have hfz68_2 := blk_frozen BK112.out 2
                    have hfz68_3 := blk_frozen BK112.out 3
                    have hfz68_4 := blk_frozen BK112.out 4
                    go_wp2
                    go_ret
                    exact ⟨by first | rfl | (simp [errW_none, errW_some] <;> rfl) | (simp [*, errW_none, errW_some] <;> rfl), by repeat (first | (with_reducible first | exact HB.out | apply below_alloc | apply pw_below_drewN | apply below_drew1 | refine below_set ?_ GE112.out) | exact HB.out)⟩
                · rw [if_neg c59] at H
                  have c59b0 : (a0_0 == 7) = false := beq_eq_false_iff_ne.mpr c59
                  have c59b1 : (a0_0 != 7) = true := bne_iff_ne.mpr c59
                  obtain rfl := Option.some.inj H
                  go_wp2
                  go_ret
                  exact ⟨by first | rfl | (simp [errW_none, errW_some] <;> rfl) | (simp [*, errW_none, errW_some] <;> rfl), by repeat (first | (with_reducible first | exact HB.out | apply below_alloc | apply pw_below_drewN | apply below_drew1 | refine below_set ?_ GE112.out) | exact HB.out)⟩

/-! ### ringworkref25_notes: function 25 -/
def ringworkref25_notes.l0 : Nat → List (S43) → Int → Option (Bool)
  | 0, _, _ => none
  | k + 1, x0, x3 => if x3 < (x0.length : Int) then (if 0 ≤ x3 then ((ringworkref25_Valid.f k ((rd_T43 x0 x3).f0) ((rd_T43 x0 x3).f1) ((rd_T43 x0 x3).f2) ((rd_T43 x0 x3).f3) ((rd_T43 x0 x3).f4)).bind fun t115 => (if t115 = true then (ringworkref25_notes.l0 k x0 (wrap64 (x3 + 1))) else (some false))) else (none)) else (some (decide ((x0.length : Int) ≤ 1000)))
def ringworkref25_notes.f (k : Nat) (l0 : List (S43)) : Option (Bool) := ringworkref25_notes.l0 k l0 0
set_option maxHeartbeats 8000000 in
set_option maxRecDepth 100000 in
theorem ringworkref25_notes.calls (k : Nat) (A0 : Option Addr) (c0 : Nat) (l0 : List (S43)) (r : Bool) (w : World) (hr0 : Kd.C k43 w A0 l0.length l0) (hc0 : l0.length ≤ c0) (h : ringworkref25_notes.f k l0 = some r) :
    Calls Tryz.prog 25 #[.slice A0 l0.length c0] w fun e w' => e = .returned (.bool r) ∧ Below w.heap.size w w' := by
  have hu43 := Tryz.underlying43
  have HR0 := Aside0.mk hr0
  have HC0 := Aside0.mk hc0
  clear hr0 hc0
  have HB := Aside0.mk (Below.refl w.heap.size w)
  have H : (ringworkref25_notes.l0 k l0 0) = some r := h
  clear h
  have H' := Aside0.mk H
  clear H
  go_enter Tryz.func25, Tryz.ntmps25
  go_wp2
  go_loopg [3] k (fun kq v3 w' => ∃ (x3_1 : Int), v3 = .int .i64 x3_1 ∧ Aside0 (ringworkref25_notes.l0 kq l0 x3_1 = some r) ∧ Aside0 (kq ≤ k) ∧ Aside0 (Below w.heap.size w w'))
  case atStart => exact ⟨(0), (by first | rfl | (simp; done) | (simp [*]; done)), H', ⟨Nat.le_refl _⟩, ⟨by repeat (first | (with_reducible first | exact HB.out | apply below_alloc | apply pw_below_drewN | apply below_drew1) | exact HB.out)⟩⟩
  case round =>
    clear H'
    obtain ⟨x3_1, rfl, HA, HK1, HB⟩ := hrel
    cases gk with
    | zero => exact absurd HA.out (by simp [ringworkref25_notes.l0])
    | succ k1 =>
      have H := HA.out
      clear HA
      simp only [ringworkref25_notes.l0] at H
      by_cases c2 : x3_1 < (l0.length : Int)
      · rw [if_pos c2] at H
        have c2b0 : decide (x3_1 < (l0.length : Int)) = true := decide_eq_true c2
        clear c2
        by_cases c3 : 0 ≤ x3_1
        · rw [if_pos c3] at H
          have c3b0 : decide (0 ≤ x3_1) = true := decide_eq_true c3
          clear c3
          replace H := Option.bind_eq_some_iff.mp H
          obtain ⟨t115, A40, H⟩ := H
          replace H : (if t115 = true then (ringworkref25_notes.l0 k1 l0 (wrap64 (x3_1 + 1))) else (some false)) = some r := H
          have A4 := Aside0.mk A40
          clear A40
          by_cases c5 : t115 = true
          · subst c5
            have H1 : (ringworkref25_notes.l0 k1 l0 (wrap64 (x3_1 + 1))) = some r := by rw [if_pos rfl] at H; exact H
            clear H
            have H := H1
            clear H1
            have H' := Aside0.mk H
            clear H
            have p114 : 0 ≤ (x3_1 : Int) := of_decide_eq_true (by first | (with_reducible assumption) | assumption)
            have q114 : x3_1 < (l0.length : Int) := of_decide_eq_true (by first | (with_reducible assumption) | assumption)
            obtain ⟨ad114, e114, hx114_0, hx114_1, hx114_2, hx114_3, hx114_4⟩ := at_T43 HR0.out x3_1 p114 q114
            cases e114
            replace hx114_0 := (HB.out.cell (World.block_lt_of_cell? w _ hx114_0)).trans hx114_0
            replace hx114_1 := (HB.out.cell (World.block_lt_of_cell? w _ hx114_1)).trans hx114_1
            replace hx114_2 := (HB.out.cell (World.block_lt_of_cell? w _ hx114_2)).trans hx114_2
            replace hx114_3 := (HB.out.cell (World.block_lt_of_cell? w _ hx114_3)).trans hx114_3
            replace hx114_4 := (HB.out.cell (World.block_lt_of_cell? w _ hx114_4)).trans hx114_4
            replace p114 := eq_true p114
            replace q114 := eq_true q114
            go_wp2_with (first | ((with_reducible refine gate_callee (f := 45) rfl ?_); refine goesL_ (some 14) rfl rfl Tryz.func45 (by kernel_rfl) rfl #[.agg #[.int .i64 ((rd_T43 l0 x3_1).f0), .int .i64 ((rd_T43 l0 x3_1).f1), .string ((rd_T43 l0 x3_1).f2), .bool ((rd_T43 l0 x3_1).f3), .string ((rd_T43 l0 x3_1).f4)]] rfl (by (try simp only [List.map_toArray, List.map_cons, List.map_nil]); first | done | rfl | (simp only [List.length_drop, List.length_take]; rfl)) ?_; (with_reducible refine (ringworkref25_Valid.calls k1 ((rd_T43 l0 x3_1).f0) ((rd_T43 l0 x3_1).f1) ((rd_T43 l0 x3_1).f2) ((rd_T43 l0 x3_1).f3) ((rd_T43 l0 x3_1).f4) true _ A4.out).mono ?_); rintro e w6 ⟨rfl, hb⟩; refine ⟨_, rfl, ?_⟩; have n0_ := Aside0.mk (below_step (by repeat (first | (with_reducible first | exact HB.out | apply below_alloc | apply pw_below_drewN | apply below_drew1) | exact HB.out)) hb); clear HB; have HB := n0_; clear n0_; (try clear hb); (try clear hb2); (try clear hk); (try clear hi)))
            go_roundg k1
            case measure => have := HK1.out; omega
            case rel => exact ⟨(wrap64 (x3_1 + 1)), (by first | rfl | (simp; done) | (simp [*]; done)), H', ⟨by have := HK1.out; omega⟩, ⟨by repeat (first | (with_reducible first | exact HB.out | apply below_alloc | apply pw_below_drewN | apply below_drew1) | exact HB.out)⟩⟩
          · replace c5 := Bool.eq_false_iff.mpr c5
            subst c5
            have H1 : (some false) = some r := by rw [if_neg (show ¬ (false = true) by decide)] at H; exact H
            clear H
            have H := H1
            clear H1
            obtain rfl := Option.some.inj H
            have p114 : 0 ≤ (x3_1 : Int) := of_decide_eq_true (by first | (with_reducible assumption) | assumption)
            have q114 : x3_1 < (l0.length : Int) := of_decide_eq_true (by first | (with_reducible assumption) | assumption)
            obtain ⟨ad114, e114, hx114_0, hx114_1, hx114_2, hx114_3, hx114_4⟩ := at_T43 HR0.out x3_1 p114 q114
            cases e114
            replace hx114_0 := (HB.out.cell (World.block_lt_of_cell? w _ hx114_0)).trans hx114_0
            replace hx114_1 := (HB.out.cell (World.block_lt_of_cell? w _ hx114_1)).trans hx114_1
            replace hx114_2 := (HB.out.cell (World.block_lt_of_cell? w _ hx114_2)).trans hx114_2
            replace hx114_3 := (HB.out.cell (World.block_lt_of_cell? w _ hx114_3)).trans hx114_3
            replace hx114_4 := (HB.out.cell (World.block_lt_of_cell? w _ hx114_4)).trans hx114_4
            replace p114 := eq_true p114
            replace q114 := eq_true q114
            go_wp2_with (first | ((with_reducible refine gate_callee (f := 45) rfl ?_); refine goesL_ (some 14) rfl rfl Tryz.func45 (by kernel_rfl) rfl #[.agg #[.int .i64 ((rd_T43 l0 x3_1).f0), .int .i64 ((rd_T43 l0 x3_1).f1), .string ((rd_T43 l0 x3_1).f2), .bool ((rd_T43 l0 x3_1).f3), .string ((rd_T43 l0 x3_1).f4)]] rfl (by (try simp only [List.map_toArray, List.map_cons, List.map_nil]); first | done | rfl | (simp only [List.length_drop, List.length_take]; rfl)) ?_; (with_reducible refine (ringworkref25_Valid.calls k1 ((rd_T43 l0 x3_1).f0) ((rd_T43 l0 x3_1).f1) ((rd_T43 l0 x3_1).f2) ((rd_T43 l0 x3_1).f3) ((rd_T43 l0 x3_1).f4) false _ A4.out).mono ?_); rintro e w7 ⟨rfl, hb⟩; refine ⟨_, rfl, ?_⟩; have n0_ := Aside0.mk (below_step (by repeat (first | (with_reducible first | exact HB.out | apply below_alloc | apply pw_below_drewN | apply below_drew1) | exact HB.out)) hb); clear HB; have HB := n0_; clear n0_; (try clear hb); (try clear hb2); (try clear hk); (try clear hi)))
            go_ret
            exact ⟨by first | rfl | (simp [errW_none, errW_some] <;> rfl) | (simp [*, errW_none, errW_some] <;> rfl), by repeat (first | (with_reducible first | exact HB.out | apply below_alloc | apply pw_below_drewN | apply below_drew1) | exact HB.out)⟩
        · rw [if_neg c3] at H
          exact absurd H (by simp)
      · rw [if_neg c2] at H
        have c2b0 : decide (x3_1 < (l0.length : Int)) = false := decide_eq_false c2
        clear c2
        obtain rfl := Option.some.inj H
        go_wp2
        go_ret
        exact ⟨by first | rfl | (simp [errW_none, errW_some] <;> rfl) | (simp [*, errW_none, errW_some] <;> rfl), by repeat (first | (with_reducible first | exact HB.out | apply below_alloc | apply pw_below_drewN | apply below_drew1) | exact HB.out)⟩

end Go.Proofs.YteblpjnkinghoaaGreat.J
namespace Go.Proofs.YteblpjnkinghoaaGreat.J
open Go.RowKit Go.Proofs.YteblpjnkinghoaaGreatW.PrintWords Go.Proofs.YteblpjnkinghoaaGreatW.PrintLast Go.Proofs.YteblpjnkinghoaaGreatW.PrintMore
attribute [local go_sem] max2_int min2_int max_two min_two max_three min_three max_four min_four   -- for this text's walks alone
set_option linter.unusedVariables false
set_option linter.unusedSimpArgs false
/-! ### ringworkref25_wrong: function 26 -/
mutual
def ringworkref25_wrong.j1 : Nat → List (S43) → Int → Int → Int → ByteArray → Bool → ByteArray → Option (Int)
  | 0, _, _, _, _, _, _, _ => none
  | k + 1, x0, x1, x128000, x128001, x128002, x128003, x128004 => ringworkref25_wrong.l0 k x0 x1 0 x128000 x128001 x128002 x128003 x128004
def ringworkref25_wrong.l0 : Nat → List (S43) → Int → Int → Int → Int → ByteArray → Bool → ByteArray → Option (Int)
  | 0, _, _, _, _, _, _, _, _ => none
  | k + 1, x0, x1, x7, x128000, x128001, x128002, x128003, x128004 => if x7 < x1 then (if 0 ≤ x7 then (if x7 < (x0.length : Int) then (if ((rd_T43 x0 x7).f1) = x128001 then (ringworkref25_wrong.l0 k x0 x1 (wrap64 (x7 + 1)) x128000 x128001 x128002 x128003 x128004) else (if ((rd_T43 x0 x7).f0) = 6 then (ringworkref25_wrong.l0 k x0 x1 (wrap64 (x7 + 1)) x128000 x128001 x128002 x128003 x128004) else ((ringworkref25_touched.f k x0 x1 ((rd_T43 x0 x7).f1) x128002 0).bind fun t132 => (if t132 = true then (some 6) else (ringworkref25_wrong.l0 k x0 x1 (wrap64 (x7 + 1)) x128000 x128001 x128002 x128003 x128004))))) else (none)) else (none)) else (some 0)
def ringworkref25_wrong.j0 : Nat → List (S43) → Int → Bool → Int → Int → ByteArray → Bool → ByteArray → Option (Int)
  | 0, _, _, _, _, _, _, _, _ => none
  | k + 1, x0, x1, x29, x128000, x128001, x128002, x128003, x128004 => if x29 = true then (some 0) else (if x128000 = 3 then ((ringworkref25_touched.f k x0 x1 x128001 x128002 2).bind fun t129 => (if t129 = true then (ringworkref25_wrong.j1 k x0 x1 x128000 x128001 x128002 x128003 x128004) else (some 8))) else (ringworkref25_wrong.j1 k x0 x1 x128000 x128001 x128002 x128003 x128004))
end
def ringworkref25_wrong.f (k : Nat) (l0 : List (S43)) (a1 : Int) : Option (Int) := if 0 ≤ a1 then (if a1 < (l0.length : Int) then ((ringworkref25_since.f k l0 a1 ((rd_T43 l0 a1).f1)).bind fun t128 => (if ((rd_T43 l0 a1).f0) = 6 then (some 0) else (if ((decide (t128 ≥ 0)) == (((rd_T43 l0 a1).f0) == 1)) = true then (some 9) else (if ((rd_T43 l0 a1).f0) = 2 then (ringworkref25_wrong.j0 k l0 a1 false ((rd_T43 l0 a1).f0) ((rd_T43 l0 a1).f1) ((rd_T43 l0 a1).f2) ((rd_T43 l0 a1).f3) ((rd_T43 l0 a1).f4)) else (ringworkref25_wrong.j0 k l0 a1 (((rd_T43 l0 a1).f0) != 3) ((rd_T43 l0 a1).f0) ((rd_T43 l0 a1).f1) ((rd_T43 l0 a1).f2) ((rd_T43 l0 a1).f3) ((rd_T43 l0 a1).f4)))))) else (none)) else (none)
set_option maxHeartbeats 8000000 in
set_option maxRecDepth 100000 in
theorem ringworkref25_wrong.calls (k : Nat) (A0 : Option Addr) (c0 : Nat) (l0 : List (S43)) (a1 : Int) (r : Int) (w : World) (hr0 : Kd.C k43 w A0 l0.length l0) (hc0 : l0.length ≤ c0) (h : ringworkref25_wrong.f k l0 a1 = some r) :
    Calls Tryz.prog 26 #[.slice A0 l0.length c0, .int .i64 a1] w fun e w' => e = .returned (.int .i64 r) ∧ Below w.heap.size w w' := by
  have hu43 := Tryz.underlying43
  have HR0 := Aside0.mk hr0
  have HC0 := Aside0.mk hc0
  clear hr0 hc0
  have HB := Aside0.mk (Below.refl w.heap.size w)
  have H : (if 0 ≤ a1 then (if a1 < (l0.length : Int) then ((ringworkref25_since.f k l0 a1 ((rd_T43 l0 a1).f1)).bind fun t128 => (if ((rd_T43 l0 a1).f0) = 6 then (some 0) else (if ((decide (t128 ≥ 0)) == (((rd_T43 l0 a1).f0) == 1)) = true then (some 9) else (if ((rd_T43 l0 a1).f0) = 2 then (ringworkref25_wrong.j0 k l0 a1 false ((rd_T43 l0 a1).f0) ((rd_T43 l0 a1).f1) ((rd_T43 l0 a1).f2) ((rd_T43 l0 a1).f3) ((rd_T43 l0 a1).f4)) else (ringworkref25_wrong.j0 k l0 a1 (((rd_T43 l0 a1).f0) != 3) ((rd_T43 l0 a1).f0) ((rd_T43 l0 a1).f1) ((rd_T43 l0 a1).f2) ((rd_T43 l0 a1).f3) ((rd_T43 l0 a1).f4)))))) else (none)) else (none)) = some r := h
  clear h
  by_cases c3 : 0 ≤ a1
  · rw [if_pos c3] at H
    have c3b0 : decide (0 ≤ a1) = true := decide_eq_true c3
    clear c3
    by_cases c4 : a1 < (l0.length : Int)
    · rw [if_pos c4] at H
      have c4b0 : decide (a1 < (l0.length : Int)) = true := decide_eq_true c4
      clear c4
      replace H := Option.bind_eq_some_iff.mp H
      obtain ⟨t128, A50, H⟩ := H
      replace H : (if ((rd_T43 l0 a1).f0) = 6 then (some 0) else (if ((decide (t128 ≥ 0)) == (((rd_T43 l0 a1).f0) == 1)) = true then (some 9) else (if ((rd_T43 l0 a1).f0) = 2 then (ringworkref25_wrong.j0 k l0 a1 false ((rd_T43 l0 a1).f0) ((rd_T43 l0 a1).f1) ((rd_T43 l0 a1).f2) ((rd_T43 l0 a1).f3) ((rd_T43 l0 a1).f4)) else (ringworkref25_wrong.j0 k l0 a1 (((rd_T43 l0 a1).f0) != 3) ((rd_T43 l0 a1).f0) ((rd_T43 l0 a1).f1) ((rd_T43 l0 a1).f2) ((rd_T43 l0 a1).f3) ((rd_T43 l0 a1).f4))))) = some r := H
      have A5 := Aside0.mk A50
      clear A50
      have HC6 := Aside0.mk H
      clear H
      have p126 : 0 ≤ (a1 : Int) := of_decide_eq_true (by first | (with_reducible assumption) | assumption)
      have q126 : a1 < (l0.length : Int) := of_decide_eq_true (by first | (with_reducible assumption) | assumption)
      obtain ⟨ad126, e126, hx126_0, hx126_1, hx126_2, hx126_3, hx126_4⟩ := at_T43 HR0.out a1 p126 q126
      cases e126
      replace p126 := eq_true p126
      replace q126 := eq_true q126
      go_enter Tryz.func26, Tryz.ntmps26
      go_upto_block 0 with (first | ((with_reducible refine gate_dst (N := 5) rfl ?_); refine box_event ?hg (N := 5) ?hd (cs := #[.int .i64 0, .int .i64 0, .string (⟨#[]⟩ : ByteArray), .bool false, .string (⟨#[]⟩ : ByteArray)]) (t := 43) ?hr ?_; (case hd => rfl); (case hg => rfl); (case hr => first | (go_simp; done) | (go_simp; rfl)); intro gb127 hg w7 hbox hb; have n0_ := Aside0.mk (below_step (by repeat (first | (with_reducible first | exact HB.out | apply below_alloc | apply pw_below_drewN | apply below_drew1) | exact HB.out)) hb); have n1_ := Aside0.mk (hbox); have n2_ := Aside0.mk ((by rw [hg]; exact (below_size (by repeat (first | (with_reducible first | exact HB.out | apply below_alloc | apply pw_below_drewN | apply below_drew1) | exact HB.out))) : w.heap.size ≤ gb127)); have n3_ := Aside0.mk ((by rw [hg]; exact (below_size (by repeat (first | (with_reducible first | exact HB.out | apply below_alloc | apply pw_below_drewN | apply below_drew1) | exact HB.out))) : w.heap.size ≤ gb127)); clear HB; have HB := n0_; have BK127 := n1_; have GW127 := n2_; have GE127 := n3_; clear n0_ n1_ n2_ n3_; clear hb hbox hg; have hcz8_0 : w7.cell? ⟨gb127, 0, none⟩ = some (.int .i64 0) := (blk_cell BK127.out 0).trans rfl; have hcz8_1 : w7.cell? ⟨gb127, 1, none⟩ = some (.int .i64 0) := (blk_cell BK127.out 1).trans rfl; have hcz8_2 : w7.cell? ⟨gb127, 2, none⟩ = some (.string (⟨#[]⟩ : ByteArray)) := (blk_cell BK127.out 2).trans rfl; have hcz8_3 : w7.cell? ⟨gb127, 3, none⟩ = some (.bool false) := (blk_cell BK127.out 3).trans rfl; have hcz8_4 : w7.cell? ⟨gb127, 4, none⟩ = some (.string (⟨#[]⟩ : ByteArray)) := (blk_cell BK127.out 4).trans rfl; have hfz8_0 := blk_frozen BK127.out 0; have hfz8_1 := blk_frozen BK127.out 1; have hfz8_2 := blk_frozen BK127.out 2; have hfz8_3 := blk_frozen BK127.out 3; have hfz8_4 := blk_frozen BK127.out 4) | ((with_reducible refine gate_callee (f := 32) rfl ?_); refine goesL_ (some 17) rfl rfl Tryz.func32 (by kernel_rfl) rfl #[.slice (some ad126) l0.length c0, .int .i64 a1, .int .i64 ((rd_T43 l0 a1).f1)] rfl (by (try simp only [List.map_toArray, List.map_cons, List.map_nil]); first | done | rfl | (simp only [List.length_drop, List.length_take]; rfl)) ?_; (with_reducible refine (ringworkref25_since.calls k _ _ l0 a1 ((rd_T43 l0 a1).f1) t128 _ ?side1 ?side2 A5.out).mono ?_); (case side1 => exact Kd.C_below HR0.out (by repeat (first | (with_reducible first | exact HB.out | apply below_alloc | apply pw_below_drewN | apply below_drew1 | refine below_set ?_ GE127.out) | exact HB.out))); (case side2 => exact HC0.out); rintro e w' ⟨rfl, ⟨nd, rfl⟩⟩; refine ⟨_, rfl, ?_⟩))
      (try simp only [Act.put, List.setIfInBounds_toArray, List.set_cons_zero, List.set_cons_succ])
      go_cut [] (fun wc => ∃ (kq : Nat), Aside0 (ringworkref25_wrong.j1 kq l0 a1 ((rd_T43 l0 a1).f0) ((rd_T43 l0 a1).f1) ((rd_T43 l0 a1).f2) ((rd_T43 l0 a1).f3) ((rd_T43 l0 a1).f4) = some r) ∧ Aside0 (kq ≤ k) ∧ Aside0 (wc.heap[gb127]? = some (.cells #[.int .i64 ((rd_T43 l0 a1).f0), .int .i64 ((rd_T43 l0 a1).f1), .string ((rd_T43 l0 a1).f2), .bool ((rd_T43 l0 a1).f3), .string ((rd_T43 l0 a1).f4)] 43 (0, 0))) ∧ Aside0 (Below w.heap.size w wc))
      case first =>
        have H := HC6.out
        clear HC6
        by_cases c9 : ((rd_T43 l0 a1).f0) = 6
        · rw [if_pos c9] at H
          have c9b0 : (((rd_T43 l0 a1).f0) == 6) = true := beq_iff_eq.mpr c9
          have c9b1 : (((rd_T43 l0 a1).f0) != 6) = false := bne_eq_false_iff_eq.mpr c9
          clear c9
          (first | rw [c9b0] | (simp only [i64_w, i32_w]; rw [c9b0]) | skip)
          obtain rfl := Option.some.inj H
          have hcz10_0 : w7.cell? ⟨gb127, 0, none⟩ = some (.int .i64 0) := (blk_cell BK127.out 0).trans rfl
          have hcz10_1 : w7.cell? ⟨gb127, 1, none⟩ = some (.int .i64 0) := (blk_cell BK127.out 1).trans rfl
          have hcz10_2 : w7.cell? ⟨gb127, 2, none⟩ = some (.string (⟨#[]⟩ : ByteArray)) := (blk_cell BK127.out 2).trans rfl
          have hcz10_3 : w7.cell? ⟨gb127, 3, none⟩ = some (.bool false) := (blk_cell BK127.out 3).trans rfl
          have hcz10_4 : w7.cell? ⟨gb127, 4, none⟩ = some (.string (⟨#[]⟩ : ByteArray)) := (blk_cell BK127.out 4).trans rfl
          have hfz10_0 := blk_frozen BK127.out 0
          have hfz10_1 := blk_frozen BK127.out 1
          have hfz10_2 := blk_frozen BK127.out 2
          have hfz10_3 := blk_frozen BK127.out 3
          have hfz10_4 := blk_frozen BK127.out 4
          go_wp2
          go_ret
          exact ⟨by first | rfl | (simp [errW_none, errW_some] <;> rfl) | (simp [*, errW_none, errW_some] <;> rfl), by repeat (first | (with_reducible first | exact HB.out | apply below_alloc | apply pw_below_drewN | apply below_drew1 | refine below_set ?_ GE127.out) | exact HB.out)⟩
        · rw [if_neg c9] at H
          have c9b0 : (((rd_T43 l0 a1).f0) == 6) = false := beq_eq_false_iff_ne.mpr c9
          have c9b1 : (((rd_T43 l0 a1).f0) != 6) = true := bne_iff_ne.mpr c9
          (first | rw [c9b0] | (simp only [i64_w, i32_w]; rw [c9b0]) | skip)
          by_cases c11 : ((decide (t128 ≥ 0)) == (((rd_T43 l0 a1).f0) == 1)) = true
          · rw [if_pos c11] at H
            have c11b0 : ((decide (t128 ≥ 0)) == (((rd_T43 l0 a1).f0) == 1)) = true := c11
            (try (have c11b1 : decide ((decide (t128 ≥ 0)) = (((rd_T43 l0 a1).f0) == 1)) = true := by simpa using c11))
            (try (have c11b2 : ((decide (t128 ≥ 0)) == (((rd_T43 l0 a1).f0) == 1)) = true := by simpa using c11))
            clear c11
            obtain rfl := Option.some.inj H
            have hcz12_0 : w7.cell? ⟨gb127, 0, none⟩ = some (.int .i64 0) := (blk_cell BK127.out 0).trans rfl
            have hcz12_1 : w7.cell? ⟨gb127, 1, none⟩ = some (.int .i64 0) := (blk_cell BK127.out 1).trans rfl
            have hcz12_2 : w7.cell? ⟨gb127, 2, none⟩ = some (.string (⟨#[]⟩ : ByteArray)) := (blk_cell BK127.out 2).trans rfl
            have hcz12_3 : w7.cell? ⟨gb127, 3, none⟩ = some (.bool false) := (blk_cell BK127.out 3).trans rfl
            have hcz12_4 : w7.cell? ⟨gb127, 4, none⟩ = some (.string (⟨#[]⟩ : ByteArray)) := (blk_cell BK127.out 4).trans rfl
            have hfz12_0 := blk_frozen BK127.out 0
            have hfz12_1 := blk_frozen BK127.out 1
            have hfz12_2 := blk_frozen BK127.out 2
            have hfz12_3 := blk_frozen BK127.out 3
            have hfz12_4 := blk_frozen BK127.out 4
            go_wp2
            go_ret
            exact ⟨by first | rfl | (simp [errW_none, errW_some] <;> rfl) | (simp [*, errW_none, errW_some] <;> rfl), by repeat (first | (with_reducible first | exact HB.out | apply below_alloc | apply pw_below_drewN | apply below_drew1 | refine below_set ?_ GE127.out) | exact HB.out)⟩
          · rw [if_neg c11] at H
            have c11b0 : ((decide (t128 ≥ 0)) == (((rd_T43 l0 a1).f0) == 1)) = false := by simpa using c11
            (try (have c11b1 : decide ((decide (t128 ≥ 0)) = (((rd_T43 l0 a1).f0) == 1)) = false := by simpa using c11))
            (try (have c11b2 : ((decide (t128 ≥ 0)) == (((rd_T43 l0 a1).f0) == 1)) = false := by simpa using c11))
            (try (have c11b3 : ¬ ((decide (t128 ≥ 0)) = (((rd_T43 l0 a1).f0) == 1)) := by simpa using c11))
            clear c11
            have HC13 := Aside0.mk H
            clear H
            have hcz14_0 : w7.cell? ⟨gb127, 0, none⟩ = some (.int .i64 0) := (blk_cell BK127.out 0).trans rfl
            have hcz14_1 : w7.cell? ⟨gb127, 1, none⟩ = some (.int .i64 0) := (blk_cell BK127.out 1).trans rfl
            have hcz14_2 : w7.cell? ⟨gb127, 2, none⟩ = some (.string (⟨#[]⟩ : ByteArray)) := (blk_cell BK127.out 2).trans rfl
            have hcz14_3 : w7.cell? ⟨gb127, 3, none⟩ = some (.bool false) := (blk_cell BK127.out 3).trans rfl
            have hcz14_4 : w7.cell? ⟨gb127, 4, none⟩ = some (.string (⟨#[]⟩ : ByteArray)) := (blk_cell BK127.out 4).trans rfl
            have hfz14_0 := blk_frozen BK127.out 0
            have hfz14_1 := blk_frozen BK127.out 1
            have hfz14_2 := blk_frozen BK127.out 2
            have hfz14_3 := blk_frozen BK127.out 3
            have hfz14_4 := blk_frozen BK127.out 4
            go_upto_region 7 with (fail)
            go_cut [29] (fun v29 wc => ∃ (kq : Nat) (x29_12 : Bool), v29 = .bool x29_12 ∧ Aside0 (ringworkref25_wrong.j0 kq l0 a1 x29_12 ((rd_T43 l0 a1).f0) ((rd_T43 l0 a1).f1) ((rd_T43 l0 a1).f2) ((rd_T43 l0 a1).f3) ((rd_T43 l0 a1).f4) = some r) ∧ Aside0 (kq ≤ k) ∧ Aside0 (wc.heap[gb127]? = some (.cells #[.int .i64 ((rd_T43 l0 a1).f0), .int .i64 ((rd_T43 l0 a1).f1), .string ((rd_T43 l0 a1).f2), .bool ((rd_T43 l0 a1).f3), .string ((rd_T43 l0 a1).f4)] 43 (0, 0))) ∧ Aside0 (Below w.heap.size w wc))
            case first =>
              have H := HC13.out
              clear HC13
              by_cases c15 : ((rd_T43 l0 a1).f0) = 2
              · rw [if_pos c15] at H
                have c15b0 : (((rd_T43 l0 a1).f0) == 2) = true := beq_iff_eq.mpr c15
                have c15b1 : (((rd_T43 l0 a1).f0) != 2) = false := bne_eq_false_iff_eq.mpr c15
                clear c15
                (first | rw [c15b0] | (simp only [i64_w, i32_w]; rw [c15b0]) | skip)
                have H' := Aside0.mk H
                clear H
                have hcz16_0 : w7.cell? ⟨gb127, 0, none⟩ = some (.int .i64 0) := (blk_cell BK127.out 0).trans rfl
                have hcz16_1 : w7.cell? ⟨gb127, 1, none⟩ = some (.int .i64 0) := (blk_cell BK127.out 1).trans rfl
                have hcz16_2 : w7.cell? ⟨gb127, 2, none⟩ = some (.string (⟨#[]⟩ : ByteArray)) := (blk_cell BK127.out 2).trans rfl
                have hcz16_3 : w7.cell? ⟨gb127, 3, none⟩ = some (.bool false) := (blk_cell BK127.out 3).trans rfl
                have hcz16_4 : w7.cell? ⟨gb127, 4, none⟩ = some (.string (⟨#[]⟩ : ByteArray)) := (blk_cell BK127.out 4).trans rfl
                have hfz16_0 := blk_frozen BK127.out 0
                have hfz16_1 := blk_frozen BK127.out 1
                have hfz16_2 := blk_frozen BK127.out 2
                have hfz16_3 := blk_frozen BK127.out 3
                have hfz16_4 := blk_frozen BK127.out 4
                go_wp2
                go_meet
                case rel => exact ⟨_, (false), (by first | rfl | (simp; done) | (simp [*]; done)), H', ⟨by first | omega | exact Nat.le_refl _⟩, ⟨by (with_reducible repeat (first | refine blk_drewN ?_ _ | refine blk_drew ?_ | refine blk_alloc ?_ _)); refine blk_put (cs := #[.int .i64 ((rd_T43 l0 a1).f0), .int .i64 ((rd_T43 l0 a1).f1), .string ((rd_T43 l0 a1).f2), .bool ((rd_T43 l0 a1).f3), .string (⟨#[]⟩ : ByteArray)]) ?_ 4 _ rfl; (with_reducible repeat (first | refine blk_drewN ?_ _ | refine blk_drew ?_ | refine blk_alloc ?_ _)); refine blk_put (cs := #[.int .i64 ((rd_T43 l0 a1).f0), .int .i64 ((rd_T43 l0 a1).f1), .string ((rd_T43 l0 a1).f2), .bool false, .string (⟨#[]⟩ : ByteArray)]) ?_ 3 _ rfl; (with_reducible repeat (first | refine blk_drewN ?_ _ | refine blk_drew ?_ | refine blk_alloc ?_ _)); refine blk_put (cs := #[.int .i64 ((rd_T43 l0 a1).f0), .int .i64 ((rd_T43 l0 a1).f1), .string (⟨#[]⟩ : ByteArray), .bool false, .string (⟨#[]⟩ : ByteArray)]) ?_ 2 _ rfl; (with_reducible repeat (first | refine blk_drewN ?_ _ | refine blk_drew ?_ | refine blk_alloc ?_ _)); refine blk_put (cs := #[.int .i64 ((rd_T43 l0 a1).f0), .int .i64 0, .string (⟨#[]⟩ : ByteArray), .bool false, .string (⟨#[]⟩ : ByteArray)]) ?_ 1 _ rfl; (with_reducible repeat (first | refine blk_drewN ?_ _ | refine blk_drew ?_ | refine blk_alloc ?_ _)); refine blk_put (cs := #[.int .i64 0, .int .i64 0, .string (⟨#[]⟩ : ByteArray), .bool false, .string (⟨#[]⟩ : ByteArray)]) ?_ 0 _ rfl; (with_reducible repeat (first | refine blk_drewN ?_ _ | refine blk_drew ?_ | refine blk_alloc ?_ _)); exact BK127.out⟩, ⟨by repeat (first | (with_reducible first | exact HB.out | apply below_alloc | apply pw_below_drewN | apply below_drew1 | refine below_set ?_ GE127.out) | exact HB.out)⟩⟩
              · rw [if_neg c15] at H
                have c15b0 : (((rd_T43 l0 a1).f0) == 2) = false := beq_eq_false_iff_ne.mpr c15
                have c15b1 : (((rd_T43 l0 a1).f0) != 2) = true := bne_iff_ne.mpr c15
                (first | rw [c15b0] | (simp only [i64_w, i32_w]; rw [c15b0]) | skip)
                have H' := Aside0.mk H
                clear H
                have hcz17_0 : w7.cell? ⟨gb127, 0, none⟩ = some (.int .i64 0) := (blk_cell BK127.out 0).trans rfl
                have hcz17_1 : w7.cell? ⟨gb127, 1, none⟩ = some (.int .i64 0) := (blk_cell BK127.out 1).trans rfl
                have hcz17_2 : w7.cell? ⟨gb127, 2, none⟩ = some (.string (⟨#[]⟩ : ByteArray)) := (blk_cell BK127.out 2).trans rfl
                have hcz17_3 : w7.cell? ⟨gb127, 3, none⟩ = some (.bool false) := (blk_cell BK127.out 3).trans rfl
                have hcz17_4 : w7.cell? ⟨gb127, 4, none⟩ = some (.string (⟨#[]⟩ : ByteArray)) := (blk_cell BK127.out 4).trans rfl
                have hfz17_0 := blk_frozen BK127.out 0
                have hfz17_1 := blk_frozen BK127.out 1
                have hfz17_2 := blk_frozen BK127.out 2
                have hfz17_3 := blk_frozen BK127.out 3
                have hfz17_4 := blk_frozen BK127.out 4
                go_wp2
                go_meet
                case rel => exact ⟨_, ((((rd_T43 l0 a1).f0) != 3)), (by first | rfl | (simp; done) | (simp [*]; done)), H', ⟨by first | omega | exact Nat.le_refl _⟩, ⟨by (with_reducible repeat (first | refine blk_drewN ?_ _ | refine blk_drew ?_ | refine blk_alloc ?_ _)); refine blk_put (cs := #[.int .i64 ((rd_T43 l0 a1).f0), .int .i64 ((rd_T43 l0 a1).f1), .string ((rd_T43 l0 a1).f2), .bool ((rd_T43 l0 a1).f3), .string (⟨#[]⟩ : ByteArray)]) ?_ 4 _ rfl; (with_reducible repeat (first | refine blk_drewN ?_ _ | refine blk_drew ?_ | refine blk_alloc ?_ _)); refine blk_put (cs := #[.int .i64 ((rd_T43 l0 a1).f0), .int .i64 ((rd_T43 l0 a1).f1), .string ((rd_T43 l0 a1).f2), .bool false, .string (⟨#[]⟩ : ByteArray)]) ?_ 3 _ rfl; (with_reducible repeat (first | refine blk_drewN ?_ _ | refine blk_drew ?_ | refine blk_alloc ?_ _)); refine blk_put (cs := #[.int .i64 ((rd_T43 l0 a1).f0), .int .i64 ((rd_T43 l0 a1).f1), .string (⟨#[]⟩ : ByteArray), .bool false, .string (⟨#[]⟩ : ByteArray)]) ?_ 2 _ rfl; (with_reducible repeat (first | refine blk_drewN ?_ _ | refine blk_drew ?_ | refine blk_alloc ?_ _)); refine blk_put (cs := #[.int .i64 ((rd_T43 l0 a1).f0), .int .i64 0, .string (⟨#[]⟩ : ByteArray), .bool false, .string (⟨#[]⟩ : ByteArray)]) ?_ 1 _ rfl; (with_reducible repeat (first | refine blk_drewN ?_ _ | refine blk_drew ?_ | refine blk_alloc ?_ _)); refine blk_put (cs := #[.int .i64 0, .int .i64 0, .string (⟨#[]⟩ : ByteArray), .bool false, .string (⟨#[]⟩ : ByteArray)]) ?_ 0 _ rfl; (with_reducible repeat (first | refine blk_drewN ?_ _ | refine blk_drew ?_ | refine blk_alloc ?_ _)); exact BK127.out⟩, ⟨by repeat (first | (with_reducible first | exact HB.out | apply below_alloc | apply pw_below_drewN | apply below_drew1 | refine below_set ?_ GE127.out) | exact HB.out)⟩⟩
            case rest =>
              clear HC13
              try clear c1
              try clear p1
              try clear q1
              try clear hx1
              try clear c2
              try clear p2
              try clear c3
              try clear c3b0
              try clear c4
              try clear c4b0
              try clear c9
              try clear c9b0
              try clear c9b1
              try clear c11
              try clear c11b0
              try clear c11b1
              try clear c11b2
              try clear p12
              try clear q12
              try clear hx12
              try clear c15
              try clear c15b0
              try clear c15b1
              try clear hcz10_0
              try clear hcz10_1
              try clear hcz10_2
              try clear hcz10_3
              try clear hcz10_4
              try clear hcz12_0
              try clear hcz12_1
              try clear hcz12_2
              try clear hcz12_3
              try clear hcz12_4
              try clear hcz14_0
              try clear hcz14_1
              try clear hcz14_2
              try clear hcz14_3
              try clear hcz14_4
              try clear hcz16_0
              try clear hcz16_1
              try clear hcz16_2
              try clear hcz16_3
              try clear hcz16_4
              try clear hcz17_0
              try clear hcz17_1
              try clear hcz17_2
              try clear hcz17_3
              try clear hcz17_4
              try clear hcz8_0
              try clear hcz8_1
              try clear hcz8_2
              try clear hcz8_3
              try clear hcz8_4
              try clear hfz10_0
              try clear hfz10_1
              try clear hfz10_2
              try clear hfz10_3
              try clear hfz10_4
              try clear hfz12_0
              try clear hfz12_1
              try clear hfz12_2
              try clear hfz12_3
              try clear hfz12_4
              try clear hfz14_0
              try clear hfz14_1
              try clear hfz14_2
              try clear hfz14_3
              try clear hfz14_4
              try clear hfz16_0
              try clear hfz16_1
              try clear hfz16_2
              try clear hfz16_3
              try clear hfz16_4
              try clear hfz17_0
              try clear hfz17_1
              try clear hfz17_2
              try clear hfz17_3
              try clear hfz17_4
              try clear hfz8_0
              try clear hfz8_1
              try clear hfz8_2
              try clear hfz8_3
              try clear hfz8_4
              try clear hx126_0
              try clear hx126_1
              try clear hx126_2
              try clear hx126_3
              try clear hx126_4
              try clear p126
              try clear q126
              obtain ⟨kq, x29_12, rfl, HA, HJ12, BK127, HB⟩ := hcut
              cases kq with
              | zero => exact absurd HA.out (by simp [ringworkref25_wrong.j0])
              | succ kj12 =>
                have H := HA.out
                clear HA
                simp only [ringworkref25_wrong.j0] at H
                by_cases c18 : x29_12 = true
                · subst c18
                  have H1 : (some 0) = some r := by rw [if_pos rfl] at H; exact H
                  clear H
                  have H := H1
                  clear H1
                  obtain rfl := Option.some.inj H
                  go_wp2
                  go_ret
                  exact ⟨by first | rfl | (simp [errW_none, errW_some] <;> rfl) | (simp [*, errW_none, errW_some] <;> rfl), by repeat (first | (with_reducible first | exact HB.out | apply below_alloc | apply pw_below_drewN | apply below_drew1 | refine below_set ?_ GE127.out) | exact HB.out)⟩
                · replace c18 := Bool.eq_false_iff.mpr c18
                  subst c18
                  have H1 : (if ((rd_T43 l0 a1).f0) = 3 then ((ringworkref25_touched.f kj12 l0 a1 ((rd_T43 l0 a1).f1) ((rd_T43 l0 a1).f2) 2).bind fun t129 => (if t129 = true then (ringworkref25_wrong.j1 kj12 l0 a1 ((rd_T43 l0 a1).f0) ((rd_T43 l0 a1).f1) ((rd_T43 l0 a1).f2) ((rd_T43 l0 a1).f3) ((rd_T43 l0 a1).f4)) else (some 8))) else (ringworkref25_wrong.j1 kj12 l0 a1 ((rd_T43 l0 a1).f0) ((rd_T43 l0 a1).f1) ((rd_T43 l0 a1).f2) ((rd_T43 l0 a1).f3) ((rd_T43 l0 a1).f4))) = some r := by rw [if_neg (show ¬ (false = true) by decide)] at H; exact H
                  clear H
                  have H := H1
                  clear H1
                  by_cases c19 : ((rd_T43 l0 a1).f0) = 3
                  · rw [if_pos c19] at H
                    have c19b0 : (((rd_T43 l0 a1).f0) == 3) = true := beq_iff_eq.mpr c19
                    have c19b1 : (((rd_T43 l0 a1).f0) != 3) = false := bne_eq_false_iff_eq.mpr c19
                    clear c19
                    replace H := Option.bind_eq_some_iff.mp H
                    obtain ⟨t129, A200, H⟩ := H
                    replace H : (if t129 = true then (ringworkref25_wrong.j1 kj12 l0 a1 ((rd_T43 l0 a1).f0) ((rd_T43 l0 a1).f1) ((rd_T43 l0 a1).f2) ((rd_T43 l0 a1).f3) ((rd_T43 l0 a1).f4)) else (some 8)) = some r := H
                    have A20 := Aside0.mk A200
                    clear A200
                    by_cases c21 : t129 = true
                    · subst c21
                      have H1 : (ringworkref25_wrong.j1 kj12 l0 a1 ((rd_T43 l0 a1).f0) ((rd_T43 l0 a1).f1) ((rd_T43 l0 a1).f2) ((rd_T43 l0 a1).f3) ((rd_T43 l0 a1).f4)) = some r := by rw [if_pos rfl] at H; exact H
                      clear H
                      have H := H1
                      clear H1
                      have H' := Aside0.mk H
                      clear H
                      have hcz22_0 : wc.cell? ⟨gb127, 0, none⟩ = some (.int .i64 ((rd_T43 l0 a1).f0)) := (blk_cell BK127.out 0).trans rfl
                      have hcz22_1 : wc.cell? ⟨gb127, 1, none⟩ = some (.int .i64 ((rd_T43 l0 a1).f1)) := (blk_cell BK127.out 1).trans rfl
                      have hcz22_2 : wc.cell? ⟨gb127, 2, none⟩ = some (.string ((rd_T43 l0 a1).f2)) := (blk_cell BK127.out 2).trans rfl
                      have hcz22_3 : wc.cell? ⟨gb127, 3, none⟩ = some (.bool ((rd_T43 l0 a1).f3)) := (blk_cell BK127.out 3).trans rfl
                      have hcz22_4 : wc.cell? ⟨gb127, 4, none⟩ = some (.string ((rd_T43 l0 a1).f4)) := (blk_cell BK127.out 4).trans rfl
                      have hfz22_0 := blk_frozen BK127.out 0
                      have hfz22_1 := blk_frozen BK127.out 1
                      have hfz22_2 := blk_frozen BK127.out 2
                      have hfz22_3 := blk_frozen BK127.out 3
                      have hfz22_4 := blk_frozen BK127.out 4
                      go_wp2_with (first | (go_at_call 46; (with_reducible refine (ringworkref25_touched.calls kj12 _ _ l0 a1 ((rd_T43 l0 a1).f1) ((rd_T43 l0 a1).f2) 2 true _ ?side1 ?side2 A20.out).mono ?_); (case side1 => repeat (first | exact (Kd.C_below HR0.out HB.out) | (with_reducible refine Kd.C_alloc ?_ _) | (with_reducible refine Kd.C_drewN ?_ _) | (with_reducible refine Kd.C_drew ?_))); (case side2 => exact HC0.out); rintro e w' ⟨rfl, ⟨nd, rfl⟩⟩))
                      go_meet
                      case rel => exact ⟨_, H', ⟨by have := HJ12.out; first | omega | exact Nat.le_refl _⟩, ⟨by (with_reducible repeat (first | refine blk_drewN ?_ _ | refine blk_drew ?_ | refine blk_alloc ?_ _)); exact BK127.out⟩, ⟨by repeat (first | (with_reducible first | exact HB.out | apply below_alloc | apply pw_below_drewN | apply below_drew1 | refine below_set ?_ GE127.out) | exact HB.out)⟩⟩
                    · replace c21 := Bool.eq_false_iff.mpr c21
                      subst c21
                      have H1 : (some 8) = some r := by rw [if_neg (show ¬ (false = true) by decide)] at H; exact H
                      clear H
                      have H := H1
                      clear H1
                      obtain rfl := Option.some.inj H
                      have hcz23_0 : wc.cell? ⟨gb127, 0, none⟩ = some (.int .i64 ((rd_T43 l0 a1).f0)) := (blk_cell BK127.out 0).trans rfl
                      have hcz23_1 : wc.cell? ⟨gb127, 1, none⟩ = some (.int .i64 ((rd_T43 l0 a1).f1)) := (blk_cell BK127.out 1).trans rfl
                      have hcz23_2 : wc.cell? ⟨gb127, 2, none⟩ = some (.string ((rd_T43 l0 a1).f2)) := (blk_cell BK127.out 2).trans rfl
                      have hcz23_3 : wc.cell? ⟨gb127, 3, none⟩ = some (.bool ((rd_T43 l0 a1).f3)) := (blk_cell BK127.out 3).trans rfl
                      have hcz23_4 : wc.cell? ⟨gb127, 4, none⟩ = some (.string ((rd_T43 l0 a1).f4)) := (blk_cell BK127.out 4).trans rfl
                      have hfz23_0 := blk_frozen BK127.out 0
                      have hfz23_1 := blk_frozen BK127.out 1
                      have hfz23_2 := blk_frozen BK127.out 2
                      have hfz23_3 := blk_frozen BK127.out 3
                      have hfz23_4 := blk_frozen BK127.out 4
                      go_wp2_with (first | (go_at_call 46; (with_reducible refine (ringworkref25_touched.calls kj12 _ _ l0 a1 ((rd_T43 l0 a1).f1) ((rd_T43 l0 a1).f2) 2 false _ ?side1 ?side2 A20.out).mono ?_); (case side1 => repeat (first | exact (Kd.C_below HR0.out HB.out) | (with_reducible refine Kd.C_alloc ?_ _) | (with_reducible refine Kd.C_drewN ?_ _) | (with_reducible refine Kd.C_drew ?_))); (case side2 => exact HC0.out); rintro e w' ⟨rfl, ⟨nd, rfl⟩⟩))
                      go_ret
                      exact ⟨by first | rfl | (simp [errW_none, errW_some] <;> rfl) | (simp [*, errW_none, errW_some] <;> rfl), by repeat (first | (with_reducible first | exact HB.out | apply below_alloc | apply pw_below_drewN | apply below_drew1 | refine below_set ?_ GE127.out) | exact HB.out)⟩
                  · rw [if_neg c19] at H
                    have c19b0 : (((rd_T43 l0 a1).f0) == 3) = false := beq_eq_false_iff_ne.mpr c19
                    have c19b1 : (((rd_T43 l0 a1).f0) != 3) = true := bne_iff_ne.mpr c19
                    have H' := Aside0.mk H
                    clear H
                    have hcz24_0 : wc.cell? ⟨gb127, 0, none⟩ = some (.int .i64 ((rd_T43 l0 a1).f0)) := (blk_cell BK127.out 0).trans rfl
                    have hcz24_1 : wc.cell? ⟨gb127, 1, none⟩ = some (.int .i64 ((rd_T43 l0 a1).f1)) := (blk_cell BK127.out 1).trans rfl
                    have hcz24_2 : wc.cell? ⟨gb127, 2, none⟩ = some (.string ((rd_T43 l0 a1).f2)) := (blk_cell BK127.out 2).trans rfl
                    have hcz24_3 : wc.cell? ⟨gb127, 3, none⟩ = some (.bool ((rd_T43 l0 a1).f3)) := (blk_cell BK127.out 3).trans rfl
                    have hcz24_4 : wc.cell? ⟨gb127, 4, none⟩ = some (.string ((rd_T43 l0 a1).f4)) := (blk_cell BK127.out 4).trans rfl
                    have hfz24_0 := blk_frozen BK127.out 0
                    have hfz24_1 := blk_frozen BK127.out 1
                    have hfz24_2 := blk_frozen BK127.out 2
                    have hfz24_3 := blk_frozen BK127.out 3
                    have hfz24_4 := blk_frozen BK127.out 4
                    go_wp2
                    go_meet
                    case rel => exact ⟨_, H', ⟨by have := HJ12.out; first | omega | exact Nat.le_refl _⟩, ⟨by (with_reducible repeat (first | refine blk_drewN ?_ _ | refine blk_drew ?_ | refine blk_alloc ?_ _)); exact BK127.out⟩, ⟨by repeat (first | (with_reducible first | exact HB.out | apply below_alloc | apply pw_below_drewN | apply below_drew1 | refine below_set ?_ GE127.out) | exact HB.out)⟩⟩
      case rest =>
        clear HC6
        try clear c1
        try clear p1
        try clear q1
        try clear hx1
        try clear c2
        try clear p2
        try clear c3
        try clear c3b0
        try clear c4
        try clear c4b0
        try clear c9
        try clear c9b0
        try clear c9b1
        try clear c11
        try clear c11b0
        try clear c11b1
        try clear c11b2
        try clear p12
        try clear q12
        try clear hx12
        try clear c15
        try clear c15b0
        try clear c15b1
        try clear c18
        try clear c19
        try clear c19b0
        try clear c19b1
        try clear c21
        try clear hcz10_0
        try clear hcz10_1
        try clear hcz10_2
        try clear hcz10_3
        try clear hcz10_4
        try clear hcz12_0
        try clear hcz12_1
        try clear hcz12_2
        try clear hcz12_3
        try clear hcz12_4
        try clear hcz14_0
        try clear hcz14_1
        try clear hcz14_2
        try clear hcz14_3
        try clear hcz14_4
        try clear hcz16_0
        try clear hcz16_1
        try clear hcz16_2
        try clear hcz16_3
        try clear hcz16_4
        try clear hcz17_0
        try clear hcz17_1
        try clear hcz17_2
        try clear hcz17_3
        try clear hcz17_4
        try clear hcz22_0
        try clear hcz22_1
        try clear hcz22_2
        try clear hcz22_3
        try clear hcz22_4
        try clear hcz23_0
        try clear hcz23_1
        try clear hcz23_2
        try clear hcz23_3
        try clear hcz23_4
        try clear hcz24_0
        try clear hcz24_1
        try clear hcz24_2
        try clear hcz24_3
        try clear hcz24_4
        try clear hcz8_0
        try clear hcz8_1
        try clear hcz8_2
        try clear hcz8_3
        try clear hcz8_4
        try clear hfz10_0
        try clear hfz10_1
        try clear hfz10_2
        try clear hfz10_3
        try clear hfz10_4
        try clear hfz12_0
        try clear hfz12_1
        try clear hfz12_2
        try clear hfz12_3
        try clear hfz12_4
        try clear hfz14_0
        try clear hfz14_1
        try clear hfz14_2
        try clear hfz14_3
        try clear hfz14_4
        try clear hfz16_0
        try clear hfz16_1
        try clear hfz16_2
        try clear hfz16_3
        try clear hfz16_4
        try clear hfz17_0
        try clear hfz17_1
        try clear hfz17_2
        try clear hfz17_3
        try clear hfz17_4
        try clear hfz22_0
        try clear hfz22_1
        try clear hfz22_2
        try clear hfz22_3
        try clear hfz22_4
        try clear hfz23_0
        try clear hfz23_1
        try clear hfz23_2
        try clear hfz23_3
        try clear hfz23_4
        try clear hfz24_0
        try clear hfz24_1
        try clear hfz24_2
        try clear hfz24_3
        try clear hfz24_4
        try clear hfz8_0
        try clear hfz8_1
        try clear hfz8_2
        try clear hfz8_3
        try clear hfz8_4
        try clear hx126_0
        try clear hx126_1
        try clear hx126_2
        try clear hx126_3
        try clear hx126_4
        try clear p1
        try clear p12
        try clear p126
        try clear p2
        try clear q1
        try clear q12
        try clear q126
        obtain ⟨kq, HA, HJ5, BK127, HB⟩ := hcut
        cases kq with
        | zero => exact absurd HA.out (by simp [ringworkref25_wrong.j1])
        | succ kj5 =>
          have H := HA.out
          clear HA
          simp only [ringworkref25_wrong.j1] at H
          have H' := Aside0.mk H
          clear H
          go_wp2
          go_loopg [7] kj5 (fun kq v7 w' => ∃ (x7_2 : Int), v7 = .int .i64 x7_2 ∧ Aside0 (ringworkref25_wrong.l0 kq l0 a1 x7_2 ((rd_T43 l0 a1).f0) ((rd_T43 l0 a1).f1) ((rd_T43 l0 a1).f2) ((rd_T43 l0 a1).f3) ((rd_T43 l0 a1).f4) = some r) ∧ Aside0 (kq ≤ kj5) ∧ Aside0 (w'.heap[gb127]? = some (.cells #[.int .i64 ((rd_T43 l0 a1).f0), .int .i64 ((rd_T43 l0 a1).f1), .string ((rd_T43 l0 a1).f2), .bool ((rd_T43 l0 a1).f3), .string ((rd_T43 l0 a1).f4)] 43 (0, 0))) ∧ Aside0 (Below w.heap.size w w'))
          case atStart => exact ⟨(0), (by first | rfl | (simp; done) | (simp [*]; done)), H', ⟨Nat.le_refl _⟩, ⟨by (with_reducible repeat (first | refine blk_drewN ?_ _ | refine blk_drew ?_ | refine blk_alloc ?_ _)); exact BK127.out⟩, ⟨by repeat (first | (with_reducible first | exact HB.out | apply below_alloc | apply pw_below_drewN | apply below_drew1 | refine below_set ?_ GE127.out) | exact HB.out)⟩⟩
          case round =>
            clear H'
            try clear c1
            try clear p1
            try clear q1
            try clear hx1
            try clear c2
            try clear p2
            try clear c3
            try clear c3b0
            try clear c4
            try clear c4b0
            try clear c9
            try clear c9b0
            try clear c9b1
            try clear c11
            try clear c11b0
            try clear c11b1
            try clear c11b2
            try clear p12
            try clear q12
            try clear hx12
            try clear c15
            try clear c15b0
            try clear c15b1
            try clear c18
            try clear c19
            try clear c19b0
            try clear c19b1
            try clear c21
            try clear hcz10_0
            try clear hcz10_1
            try clear hcz10_2
            try clear hcz10_3
            try clear hcz10_4
            try clear hcz12_0
            try clear hcz12_1
            try clear hcz12_2
            try clear hcz12_3
            try clear hcz12_4
            try clear hcz14_0
            try clear hcz14_1
            try clear hcz14_2
            try clear hcz14_3
            try clear hcz14_4
            try clear hcz16_0
            try clear hcz16_1
            try clear hcz16_2
            try clear hcz16_3
            try clear hcz16_4
            try clear hcz17_0
            try clear hcz17_1
            try clear hcz17_2
            try clear hcz17_3
            try clear hcz17_4
            try clear hcz22_0
            try clear hcz22_1
            try clear hcz22_2
            try clear hcz22_3
            try clear hcz22_4
            try clear hcz23_0
            try clear hcz23_1
            try clear hcz23_2
            try clear hcz23_3
            try clear hcz23_4
            try clear hcz24_0
            try clear hcz24_1
            try clear hcz24_2
            try clear hcz24_3
            try clear hcz24_4
            try clear hcz8_0
            try clear hcz8_1
            try clear hcz8_2
            try clear hcz8_3
            try clear hcz8_4
            try clear hfz10_0
            try clear hfz10_1
            try clear hfz10_2
            try clear hfz10_3
            try clear hfz10_4
            try clear hfz12_0
            try clear hfz12_1
            try clear hfz12_2
            try clear hfz12_3
            try clear hfz12_4
            try clear hfz14_0
            try clear hfz14_1
            try clear hfz14_2
            try clear hfz14_3
            try clear hfz14_4
            try clear hfz16_0
            try clear hfz16_1
            try clear hfz16_2
            try clear hfz16_3
            try clear hfz16_4
            try clear hfz17_0
            try clear hfz17_1
            try clear hfz17_2
            try clear hfz17_3
            try clear hfz17_4
            try clear hfz22_0
            try clear hfz22_1
            try clear hfz22_2
            try clear hfz22_3
            try clear hfz22_4
            try clear hfz23_0
            try clear hfz23_1
            try clear hfz23_2
            try clear hfz23_3
            try clear hfz23_4
            try clear hfz24_0
            try clear hfz24_1
            try clear hfz24_2
            try clear hfz24_3
            try clear hfz24_4
            try clear hfz8_0
            try clear hfz8_1
            try clear hfz8_2
            try clear hfz8_3
            try clear hfz8_4
            try clear hx126_0
            try clear hx126_1
            try clear hx126_2
            try clear hx126_3
            try clear hx126_4
            try clear p1
            try clear p12
            try clear p126
            try clear p2
            try clear q1
            try clear q12
            try clear q126
            obtain ⟨x7_2, rfl, HA, HK2, BK127, HB⟩ := hrel
            cases gk with
            | zero => exact absurd HA.out (by simp [ringworkref25_wrong.l0])
            | succ k2 =>
              have H := HA.out
              clear HA
              simp only [ringworkref25_wrong.l0] at H
              by_cases c25 : x7_2 < a1
              · rw [if_pos c25] at H
                have c25b0 : decide (x7_2 < a1) = true := decide_eq_true c25
                clear c25
                by_cases c26 : 0 ≤ x7_2
                · rw [if_pos c26] at H
                  have c26b0 : decide (0 ≤ x7_2) = true := decide_eq_true c26
                  clear c26
                  by_cases c27 : x7_2 < (l0.length : Int)
                  · rw [if_pos c27] at H
                    have c27b0 : decide (x7_2 < (l0.length : Int)) = true := decide_eq_true c27
                    clear c27
                    by_cases c28 : ((rd_T43 l0 x7_2).f1) = ((rd_T43 l0 a1).f1)
                    · rw [if_pos c28] at H
                      have c28b0 : (((rd_T43 l0 x7_2).f1) == ((rd_T43 l0 a1).f1)) = true := beq_iff_eq.mpr c28
                      have c28b1 : (((rd_T43 l0 x7_2).f1) != ((rd_T43 l0 a1).f1)) = false := bne_eq_false_iff_eq.mpr c28
                      clear c28
                      have H' := Aside0.mk H
                      clear H
                      have p130 : 0 ≤ (x7_2 : Int) := of_decide_eq_true (by first | (with_reducible assumption) | assumption)
                      have q130 : x7_2 < (l0.length : Int) := of_decide_eq_true (by first | (with_reducible assumption) | assumption)
                      obtain ⟨ad130, e130, hx130_0, hx130_1, hx130_2, hx130_3, hx130_4⟩ := at_T43 HR0.out x7_2 p130 q130
                      obtain rfl : ad126 = ad130 := (by injection e130)
                      replace hx130_0 := (HB.out.cell (World.block_lt_of_cell? w _ hx130_0)).trans hx130_0
                      replace hx130_1 := (HB.out.cell (World.block_lt_of_cell? w _ hx130_1)).trans hx130_1
                      replace hx130_2 := (HB.out.cell (World.block_lt_of_cell? w _ hx130_2)).trans hx130_2
                      replace hx130_3 := (HB.out.cell (World.block_lt_of_cell? w _ hx130_3)).trans hx130_3
                      replace hx130_4 := (HB.out.cell (World.block_lt_of_cell? w _ hx130_4)).trans hx130_4
                      replace p130 := eq_true p130
                      replace q130 := eq_true q130
                      have hcz29_0 : wr.cell? ⟨gb127, 0, none⟩ = some (.int .i64 ((rd_T43 l0 a1).f0)) := (blk_cell BK127.out 0).trans rfl
                      have hcz29_1 : wr.cell? ⟨gb127, 1, none⟩ = some (.int .i64 ((rd_T43 l0 a1).f1)) := (blk_cell BK127.out 1).trans rfl
                      have hcz29_2 : wr.cell? ⟨gb127, 2, none⟩ = some (.string ((rd_T43 l0 a1).f2)) := (blk_cell BK127.out 2).trans rfl
                      have hcz29_3 : wr.cell? ⟨gb127, 3, none⟩ = some (.bool ((rd_T43 l0 a1).f3)) := (blk_cell BK127.out 3).trans rfl
                      have hcz29_4 : wr.cell? ⟨gb127, 4, none⟩ = some (.string ((rd_T43 l0 a1).f4)) := (blk_cell BK127.out 4).trans rfl
                      have hfz29_0 := blk_frozen BK127.out 0
                      have hfz29_1 := blk_frozen BK127.out 1
                      have hfz29_2 := blk_frozen BK127.out 2
                      have hfz29_3 := blk_frozen BK127.out 3
                      have hfz29_4 := blk_frozen BK127.out 4
                      go_wp2
                      go_roundg k2
                      case measure => have := HJ5.out; have := HK2.out; omega
                      case rel => exact ⟨(wrap64 (x7_2 + 1)), (by first | rfl | (simp; done) | (simp [*]; done)), H', ⟨by have := HJ5.out; have := HK2.out; omega⟩, ⟨by (with_reducible repeat (first | refine blk_drewN ?_ _ | refine blk_drew ?_ | refine blk_alloc ?_ _)); exact BK127.out⟩, ⟨by repeat (first | (with_reducible first | exact HB.out | apply below_alloc | apply pw_below_drewN | apply below_drew1 | refine below_set ?_ GE127.out) | exact HB.out)⟩⟩
                    · rw [if_neg c28] at H
                      have c28b0 : (((rd_T43 l0 x7_2).f1) == ((rd_T43 l0 a1).f1)) = false := beq_eq_false_iff_ne.mpr c28
                      have c28b1 : (((rd_T43 l0 x7_2).f1) != ((rd_T43 l0 a1).f1)) = true := bne_iff_ne.mpr c28
                      by_cases c30 : ((rd_T43 l0 x7_2).f0) = 6
                      · rw [if_pos c30] at H
                        have c30b0 : (((rd_T43 l0 x7_2).f0) == 6) = true := beq_iff_eq.mpr c30
                        have c30b1 : (((rd_T43 l0 x7_2).f0) != 6) = false := bne_eq_false_iff_eq.mpr c30
                        clear c30
                        have H' := Aside0.mk H
                        clear H
                        have p130 : 0 ≤ (x7_2 : Int) := of_decide_eq_true (by first | (with_reducible assumption) | assumption)
                        have q130 : x7_2 < (l0.length : Int) := of_decide_eq_true (by first | (with_reducible assumption) | assumption)
                        obtain ⟨ad130, e130, hx130_0, hx130_1, hx130_2, hx130_3, hx130_4⟩ := at_T43 HR0.out x7_2 p130 q130
                        obtain rfl : ad126 = ad130 := (by injection e130)
                        replace hx130_0 := (HB.out.cell (World.block_lt_of_cell? w _ hx130_0)).trans hx130_0
                        replace hx130_1 := (HB.out.cell (World.block_lt_of_cell? w _ hx130_1)).trans hx130_1
                        replace hx130_2 := (HB.out.cell (World.block_lt_of_cell? w _ hx130_2)).trans hx130_2
                        replace hx130_3 := (HB.out.cell (World.block_lt_of_cell? w _ hx130_3)).trans hx130_3
                        replace hx130_4 := (HB.out.cell (World.block_lt_of_cell? w _ hx130_4)).trans hx130_4
                        replace p130 := eq_true p130
                        replace q130 := eq_true q130
                        have hcz31_0 : wr.cell? ⟨gb127, 0, none⟩ = some (.int .i64 ((rd_T43 l0 a1).f0)) := (blk_cell BK127.out 0).trans rfl
                        have hcz31_1 : wr.cell? ⟨gb127, 1, none⟩ = some (.int .i64 ((rd_T43 l0 a1).f1)) := (blk_cell BK127.out 1).trans rfl
                        have hcz31_2 : wr.cell? ⟨gb127, 2, none⟩ = some (.string ((rd_T43 l0 a1).f2)) := (blk_cell BK127.out 2).trans rfl
                        have hcz31_3 : wr.cell? ⟨gb127, 3, none⟩ = some (.bool ((rd_T43 l0 a1).f3)) := (blk_cell BK127.out 3).trans rfl
                        have hcz31_4 : wr.cell? ⟨gb127, 4, none⟩ = some (.string ((rd_T43 l0 a1).f4)) := (blk_cell BK127.out 4).trans rfl
                        have hfz31_0 := blk_frozen BK127.out 0
                        have hfz31_1 := blk_frozen BK127.out 1
                        have hfz31_2 := blk_frozen BK127.out 2
                        have hfz31_3 := blk_frozen BK127.out 3
                        have hfz31_4 := blk_frozen BK127.out 4
                        have p131 : 0 ≤ (x7_2 : Int) := of_decide_eq_true (by first | (with_reducible assumption) | assumption)
                        have q131 : x7_2 < (l0.length : Int) := of_decide_eq_true (by first | (with_reducible assumption) | assumption)
                        obtain ⟨ad131, e131, hx131_0, hx131_1, hx131_2, hx131_3, hx131_4⟩ := at_T43 HR0.out x7_2 p131 q131
                        obtain rfl : ad126 = ad131 := (by injection e131)
                        replace hx131_0 := (HB.out.cell (World.block_lt_of_cell? w _ hx131_0)).trans hx131_0
                        replace hx131_1 := (HB.out.cell (World.block_lt_of_cell? w _ hx131_1)).trans hx131_1
                        replace hx131_2 := (HB.out.cell (World.block_lt_of_cell? w _ hx131_2)).trans hx131_2
                        replace hx131_3 := (HB.out.cell (World.block_lt_of_cell? w _ hx131_3)).trans hx131_3
                        replace hx131_4 := (HB.out.cell (World.block_lt_of_cell? w _ hx131_4)).trans hx131_4
                        replace p131 := eq_true p131
                        replace q131 := eq_true q131
                        go_wp2
                        go_roundg k2
                        case measure => have := HJ5.out; have := HK2.out; omega
                        case rel => exact ⟨(wrap64 (x7_2 + 1)), (by first | rfl | (simp; done) | (simp [*]; done)), H', ⟨by have := HJ5.out; have := HK2.out; omega⟩, ⟨by (with_reducible repeat (first | refine blk_drewN ?_ _ | refine blk_drew ?_ | refine blk_alloc ?_ _)); exact BK127.out⟩, ⟨by repeat (first | (with_reducible first | exact HB.out | apply below_alloc | apply pw_below_drewN | apply below_drew1 | refine below_set ?_ GE127.out) | exact HB.out)⟩⟩
                      · rw [if_neg c30] at H
                        have c30b0 : (((rd_T43 l0 x7_2).f0) == 6) = false := beq_eq_false_iff_ne.mpr c30
                        have c30b1 : (((rd_T43 l0 x7_2).f0) != 6) = true := bne_iff_ne.mpr c30
                        replace H := Option.bind_eq_some_iff.mp H
                        obtain ⟨t132, A320, H⟩ := H
                        replace H : (if t132 = true then (some 6) else (ringworkref25_wrong.l0 k2 l0 a1 (wrap64 (x7_2 + 1)) ((rd_T43 l0 a1).f0) ((rd_T43 l0 a1).f1) ((rd_T43 l0 a1).f2) ((rd_T43 l0 a1).f3) ((rd_T43 l0 a1).f4))) = some r := H
                        have A32 := Aside0.mk A320
                        clear A320
                        by_cases c33 : t132 = true
                        · subst c33
                          have H1 : (some 6) = some r := by rw [if_pos rfl] at H; exact H
                          clear H
                          have H := H1
                          clear H1
                          obtain rfl := Option.some.inj H
                          have p130 : 0 ≤ (x7_2 : Int) := of_decide_eq_true (by first | (with_reducible assumption) | assumption)
                          have q130 : x7_2 < (l0.length : Int) := of_decide_eq_true (by first | (with_reducible assumption) | assumption)
                          obtain ⟨ad130, e130, hx130_0, hx130_1, hx130_2, hx130_3, hx130_4⟩ := at_T43 HR0.out x7_2 p130 q130
                          obtain rfl : ad126 = ad130 := (by injection e130)
                          replace hx130_0 := (HB.out.cell (World.block_lt_of_cell? w _ hx130_0)).trans hx130_0
                          replace hx130_1 := (HB.out.cell (World.block_lt_of_cell? w _ hx130_1)).trans hx130_1
                          replace hx130_2 := (HB.out.cell (World.block_lt_of_cell? w _ hx130_2)).trans hx130_2
                          replace hx130_3 := (HB.out.cell (World.block_lt_of_cell? w _ hx130_3)).trans hx130_3
                          replace hx130_4 := (HB.out.cell (World.block_lt_of_cell? w _ hx130_4)).trans hx130_4
                          replace p130 := eq_true p130
                          replace q130 := eq_true q130
                          have hcz34_0 : wr.cell? ⟨gb127, 0, none⟩ = some (.int .i64 ((rd_T43 l0 a1).f0)) := (blk_cell BK127.out 0).trans rfl
                          have hcz34_1 : wr.cell? ⟨gb127, 1, none⟩ = some (.int .i64 ((rd_T43 l0 a1).f1)) := (blk_cell BK127.out 1).trans rfl
                          have hcz34_2 : wr.cell? ⟨gb127, 2, none⟩ = some (.string ((rd_T43 l0 a1).f2)) := (blk_cell BK127.out 2).trans rfl
                          have hcz34_3 : wr.cell? ⟨gb127, 3, none⟩ = some (.bool ((rd_T43 l0 a1).f3)) := (blk_cell BK127.out 3).trans rfl
                          have hcz34_4 : wr.cell? ⟨gb127, 4, none⟩ = some (.string ((rd_T43 l0 a1).f4)) := (blk_cell BK127.out 4).trans rfl
                          have hfz34_0 := blk_frozen BK127.out 0
                          have hfz34_1 := blk_frozen BK127.out 1
                          have hfz34_2 := blk_frozen BK127.out 2
                          have hfz34_3 := blk_frozen BK127.out 3
                          have hfz34_4 := blk_frozen BK127.out 4
                          have p131 : 0 ≤ (x7_2 : Int) := of_decide_eq_true (by first | (with_reducible assumption) | assumption)
                          have q131 : x7_2 < (l0.length : Int) := of_decide_eq_true (by first | (with_reducible assumption) | assumption)
                          obtain ⟨ad131, e131, hx131_0, hx131_1, hx131_2, hx131_3, hx131_4⟩ := at_T43 HR0.out x7_2 p131 q131
                          obtain rfl : ad126 = ad131 := (by injection e131)
                          replace hx131_0 := (HB.out.cell (World.block_lt_of_cell? w _ hx131_0)).trans hx131_0
                          replace hx131_1 := (HB.out.cell (World.block_lt_of_cell? w _ hx131_1)).trans hx131_1
                          replace hx131_2 := (HB.out.cell (World.block_lt_of_cell? w _ hx131_2)).trans hx131_2
                          replace hx131_3 := (HB.out.cell (World.block_lt_of_cell? w _ hx131_3)).trans hx131_3
                          replace hx131_4 := (HB.out.cell (World.block_lt_of_cell? w _ hx131_4)).trans hx131_4
                          replace p131 := eq_true p131
                          replace q131 := eq_true q131
                          go_wp2_with (first | (go_at_call 46; (with_reducible refine (ringworkref25_touched.calls k2 _ _ l0 a1 ((rd_T43 l0 x7_2).f1) ((rd_T43 l0 a1).f2) 0 true _ ?side1 ?side2 A32.out).mono ?_); (case side1 => repeat (first | exact (Kd.C_below HR0.out HB.out) | (with_reducible refine Kd.C_alloc ?_ _) | (with_reducible refine Kd.C_drewN ?_ _) | (with_reducible refine Kd.C_drew ?_))); (case side2 => exact HC0.out); rintro e w' ⟨rfl, ⟨nd, rfl⟩⟩))
                          go_ret
                          exact ⟨by first | rfl | (simp [errW_none, errW_some] <;> rfl) | (simp [*, errW_none, errW_some] <;> rfl), by repeat (first | (with_reducible first | exact HB.out | apply below_alloc | apply pw_below_drewN | apply below_drew1 | refine below_set ?_ GE127.out) | exact HB.out)⟩
                        · replace c33 := Bool.eq_false_iff.mpr c33
                          subst c33
                          have H1 : (ringworkref25_wrong.l0 k2 l0 a1 (wrap64 (x7_2 + 1)) ((rd_T43 l0 a1).f0) ((rd_T43 l0 a1).f1) ((rd_T43 l0 a1).f2) ((rd_T43 l0 a1).f3) ((rd_T43 l0 a1).f4)) = some r := by rw [if_neg (show ¬ (false = true) by decide)] at H; exact H
                          clear H
                          have H := H1
                          clear H1
                          have H' := Aside0.mk H
                          clear H
                          have p130 : 0 ≤ (x7_2 : Int) := of_decide_eq_true (by first | (with_reducible assumption) | assumption)
                          have q130 : x7_2 < (l0.length : Int) := of_decide_eq_true (by first | (with_reducible assumption) | assumption)
                          obtain ⟨ad130, e130, hx130_0, hx130_1, hx130_2, hx130_3, hx130_4⟩ := at_T43 HR0.out x7_2 p130 q130
                          obtain rfl : ad126 = ad130 := (by injection e130)
                          replace hx130_0 := (HB.out.cell (World.block_lt_of_cell? w _ hx130_0)).trans hx130_0
                          replace hx130_1 := (HB.out.cell (World.block_lt_of_cell? w _ hx130_1)).trans hx130_1
                          replace hx130_2 := (HB.out.cell (World.block_lt_of_cell? w _ hx130_2)).trans hx130_2
                          replace hx130_3 := (HB.out.cell (World.block_lt_of_cell? w _ hx130_3)).trans hx130_3
                          replace hx130_4 := (HB.out.cell (World.block_lt_of_cell? w _ hx130_4)).trans hx130_4
                          replace p130 := eq_true p130
                          replace q130 := eq_true q130
                          have hcz35_0 : wr.cell? ⟨gb127, 0, none⟩ = some (.int .i64 ((rd_T43 l0 a1).f0)) := (blk_cell BK127.out 0).trans rfl
                          have hcz35_1 : wr.cell? ⟨gb127, 1, none⟩ = some (.int .i64 ((rd_T43 l0 a1).f1)) := (blk_cell BK127.out 1).trans rfl
                          have hcz35_2 : wr.cell? ⟨gb127, 2, none⟩ = some (.string ((rd_T43 l0 a1).f2)) := (blk_cell BK127.out 2).trans rfl
                          have hcz35_3 : wr.cell? ⟨gb127, 3, none⟩ = some (.bool ((rd_T43 l0 a1).f3)) := (blk_cell BK127.out 3).trans rfl
                          have hcz35_4 : wr.cell? ⟨gb127, 4, none⟩ = some (.string ((rd_T43 l0 a1).f4)) := (blk_cell BK127.out 4).trans rfl
                          have hfz35_0 := blk_frozen BK127.out 0
                          have hfz35_1 := blk_frozen BK127.out 1
                          have hfz35_2 := blk_frozen BK127.out 2
                          have hfz35_3 := blk_frozen BK127.out 3
                          have hfz35_4 := blk_frozen BK127.out 4
                          have p131 : 0 ≤ (x7_2 : Int) := of_decide_eq_true (by first | (with_reducible assumption) | assumption)
                          have q131 : x7_2 < (l0.length : Int) := of_decide_eq_true (by first | (with_reducible assumption) | assumption)
                          obtain ⟨ad131, e131, hx131_0, hx131_1, hx131_2, hx131_3, hx131_4⟩ := at_T43 HR0.out x7_2 p131 q131
                          obtain rfl : ad126 = ad131 := (by injection e131)
                          replace hx131_0 := (HB.out.cell (World.block_lt_of_cell? w _ hx131_0)).trans hx131_0
                          replace hx131_1 := (HB.out.cell (World.block_lt_of_cell? w _ hx131_1)).trans hx131_1
                          replace hx131_2 := (HB.out.cell (World.block_lt_of_cell? w _ hx131_2)).trans hx131_2
                          replace hx131_3 := (HB.out.cell (World.block_lt_of_cell? w _ hx131_3)).trans hx131_3
                          replace hx131_4 := (HB.out.cell (World.block_lt_of_cell? w _ hx131_4)).trans hx131_4
                          replace p131 := eq_true p131
                          replace q131 := eq_true q131
                          go_wp2_with (first | (go_at_call 46; (with_reducible refine (ringworkref25_touched.calls k2 _ _ l0 a1 ((rd_T43 l0 x7_2).f1) ((rd_T43 l0 a1).f2) 0 false _ ?side1 ?side2 A32.out).mono ?_); (case side1 => repeat (first | exact (Kd.C_below HR0.out HB.out) | (with_reducible refine Kd.C_alloc ?_ _) | (with_reducible refine Kd.C_drewN ?_ _) | (with_reducible refine Kd.C_drew ?_))); (case side2 => exact HC0.out); rintro e w' ⟨rfl, ⟨nd, rfl⟩⟩))
                          go_roundg k2
                          case measure => have := HJ5.out; have := HK2.out; omega
                          case rel => exact ⟨(wrap64 (x7_2 + 1)), (by first | rfl | (simp; done) | (simp [*]; done)), H', ⟨by have := HJ5.out; have := HK2.out; omega⟩, ⟨by (with_reducible repeat (first | refine blk_drewN ?_ _ | refine blk_drew ?_ | refine blk_alloc ?_ _)); exact BK127.out⟩, ⟨by repeat (first | (with_reducible first | exact HB.out | apply below_alloc | apply pw_below_drewN | apply below_drew1 | refine below_set ?_ GE127.out) | exact HB.out)⟩⟩
                  · rw [if_neg c27] at H
                    exact absurd H (by simp)
                · rw [if_neg c26] at H
                  exact absurd H (by simp)
              · rw [if_neg c25] at H
                have c25b0 : decide (x7_2 < a1) = false := decide_eq_false c25
                clear c25
                obtain rfl := Option.some.inj H
                go_wp2
                go_ret
                exact ⟨by first | rfl | (simp [errW_none, errW_some] <;> rfl) | (simp [*, errW_none, errW_some] <;> rfl), by repeat (first | (with_reducible first | exact HB.out | apply below_alloc | apply pw_below_drewN | apply below_drew1 | refine below_set ?_ GE127.out) | exact HB.out)⟩
    · rw [if_neg c4] at H
      exact absurd H (by simp)
  · rw [if_neg c3] at H
    exact absurd H (by simp)

end Go.Proofs.YteblpjnkinghoaaGreat.J
