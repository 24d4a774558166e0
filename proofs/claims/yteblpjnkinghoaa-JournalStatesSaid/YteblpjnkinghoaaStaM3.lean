/- Lemmas and contracts (part 3) on which the claim's last text leans: The law JournalStates holds of every input: it returns true, and its arguments read behind the call as they read before. Conditions: none. -/
import Derived.Shelf.Spec.SlicesInsert
import Derived.Laws.CopyOwn
import Derived.StillTailTactics
import Derived.Deep.RegionLaw
import Derived.Lib.Bytealg
import Derived.Lib.SliceRun
import Derived.Test.YteblpjnkinghoaaStaM1
import Derived.Test.YteblpjnkinghoaaStaM2
set_option linter.unusedVariables false
set_option linter.unusedSimpArgs false
namespace Go.Proofs.Yteblpjnkinghoaa.J
open Go.RowKit Go.Proofs.YteblpjnkinghoaaW.PrintWords Go.Proofs.YteblpjnkinghoaaW.PrintLast Go.Proofs.YteblpjnkinghoaaW.PrintMore
attribute [local go_sem] max2_int min2_int max_two min_two max_three min_three max_four min_four   -- for this text's walks alone
set_option linter.unusedVariables false
set_option linter.unusedSimpArgs false
/-! ### ringworkref25_counts: function 41 -/
mutual
def ringworkref25_counts.l0 : Nat → List (S39) → Int → Int → Option (Bool)
  | 0, _, _, _ => none
  | k + 1, x0, x1, x5 => if x5 < (x0.length : Int) then (if 0 ≤ x5 then (if 0 ≤ x1 then (if x1 < (x0.length : Int) then (if ((rd_T39 x0 x5).f1) = ((rd_T39 x0 x1).f1) then (if ((rd_T39 x0 x5).f0) = 4 then (ringworkref25_counts.j1 k x0 x1 x5 true) else (ringworkref25_counts.j1 k x0 x1 x5 (((rd_T39 x0 x5).f0) == 5))) else (ringworkref25_counts.j1 k x0 x1 x5 false)) else (none)) else (none)) else (none)) else (some false)
def ringworkref25_counts.j1 : Nat → List (S39) → Int → Int → Bool → Option (Bool)
  | 0, _, _, _, _ => none
  | k + 1, x0, x1, x5, x40 => if x40 = true then (some true) else (if 0 ≤ x5 then (if x5 < (x0.length : Int) then (if 0 ≤ x1 then (if x1 < (x0.length : Int) then (if ((rd_T39 x0 x5).f1) = ((rd_T39 x0 x1).f1) then (if ((rd_T39 x0 x5).f0) = 7 then (some false) else (ringworkref25_counts.l0 k x0 x1 (wrap64 (x5 + 1)))) else (ringworkref25_counts.l0 k x0 x1 (wrap64 (x5 + 1)))) else (none)) else (none)) else (none)) else (none))
end
def ringworkref25_counts.f (k : Nat) (l0 : List (S39)) (a1 : Int) : Option (Bool) := ringworkref25_counts.l0 k l0 a1 (wrap64 (a1 + 1))
set_option maxHeartbeats 8000000 in
set_option maxRecDepth 100000 in
theorem ringworkref25_counts.calls (k : Nat) (A0 : Option Addr) (c0 : Nat) (l0 : List (S39)) (a1 : Int) (r : Bool) (w : World) (hr0 : Kd.C k39 w A0 l0.length l0) (hc0 : l0.length ≤ c0) (h : ringworkref25_counts.f k l0 a1 = some r) :
    Calls Try.prog 41 #[.slice A0 l0.length c0, .int .i64 a1] w fun e w' => e = .returned (.bool r) ∧ Drawn0 w w' := by
  have HR0 := Aside0.mk hr0
  have HC0 := Aside0.mk hc0
  clear hr0 hc0
  have H : (ringworkref25_counts.l0 k l0 a1 (wrap64 (a1 + 1))) = some r := h
  clear h
  have H' := Aside0.mk H
  clear H
  go_enter Try.func41, Try.ntmps41
  go_wp2
  repeat (go_quiet (fail); try go_wp2)
  go_loopg [5] k (fun kq v5 w' => ∃ (x5_1 : Int), v5 = .int .i64 x5_1 ∧ Aside0 (ringworkref25_counts.l0 kq l0 a1 x5_1 = some r) ∧ Aside0 (kq ≤ k) ∧ Drawn0 w w')
  case atStart => exact ⟨(wrap64 (a1 + 1)), (by first | rfl | (simp; done) | (simp [*]; done)), H', ⟨Nat.le_refl _⟩, by repeat (first | exact Drawn0.refl _ | apply Drawn0.step)⟩
  case round =>
    clear H'
    try clear p2
    obtain ⟨x5_1, rfl, HA, HK1, ⟨m1, rfl⟩⟩ := hrel
    cases gk with
    | zero => exact absurd HA.out (by simp [ringworkref25_counts.l0])
    | succ k1 =>
      have H := HA.out
      clear HA
      simp only [ringworkref25_counts.l0] at H
      by_cases c3 : x5_1 < (l0.length : Int)
      · rw [if_pos c3] at H
        have c3b0 : decide (x5_1 < (l0.length : Int)) = true := decide_eq_true c3
        clear c3
        have HC4 := Aside0.mk H
        clear H
        go_upto_region 4 with (fail)
        repeat (go_quiet (fail); go_upto_region 4 with (fail))
        go_cut [40] (fun v40 wc => ∃ (kq : Nat) (x40_3 : Bool), v40 = .bool x40_3 ∧ Aside0 (ringworkref25_counts.j1 kq l0 a1 x5_1 x40_3 = some r) ∧ Aside0 (kq ≤ k1) ∧ Drawn0 w wc)
        case first =>
          have H := HC4.out
          clear HC4
          by_cases c5 : 0 ≤ x5_1
          · rw [if_pos c5] at H
            have c5b0 : decide (0 ≤ x5_1) = true := decide_eq_true c5
            clear c5
            (first | rw [c5b0] | (simp only [i64_w, i32_w]; rw [c5b0]) | skip)
            by_cases c6 : 0 ≤ a1
            · rw [if_pos c6] at H
              have c6b0 : decide (0 ≤ a1) = true := decide_eq_true c6
              clear c6
              by_cases c7 : a1 < (l0.length : Int)
              · rw [if_pos c7] at H
                have c7b0 : decide (a1 < (l0.length : Int)) = true := decide_eq_true c7
                clear c7
                by_cases c8 : ((rd_T39 l0 x5_1).f1) = ((rd_T39 l0 a1).f1)
                · rw [if_pos c8] at H
                  have c8b0 : (((rd_T39 l0 x5_1).f1) == ((rd_T39 l0 a1).f1)) = true := beq_iff_eq.mpr c8
                  have c8b1 : (((rd_T39 l0 x5_1).f1) != ((rd_T39 l0 a1).f1)) = false := bne_eq_false_iff_eq.mpr c8
                  clear c8
                  by_cases c9 : ((rd_T39 l0 x5_1).f0) = 4
                  · rw [if_pos c9] at H
                    have c9b0 : (((rd_T39 l0 x5_1).f0) == 4) = true := beq_iff_eq.mpr c9
                    have c9b1 : (((rd_T39 l0 x5_1).f0) != 4) = false := bne_eq_false_iff_eq.mpr c9
                    clear c9
                    have H' := Aside0.mk H
                    clear H
                    have p164 : 0 ≤ (x5_1 : Int) := of_decide_eq_true (by first | (with_reducible assumption) | assumption)
                    have q164 : x5_1 < (l0.length : Int) := of_decide_eq_true (by first | (with_reducible assumption) | assumption)
                    obtain ⟨ad164, e164, hx164_0, hx164_1, hx164_2, hx164_3, hx164_4⟩ := at_T39 HR0.out x5_1 p164 q164
                    cases e164
                    replace p164 := eq_true p164
                    replace q164 := eq_true q164
                    have p165 : 0 ≤ (a1 : Int) := of_decide_eq_true (by first | (with_reducible assumption) | assumption)
                    have q165 : a1 < (l0.length : Int) := of_decide_eq_true (by first | (with_reducible assumption) | assumption)
                    obtain ⟨ad165, e165, hx165_0, hx165_1, hx165_2, hx165_3, hx165_4⟩ := at_T39 HR0.out a1 p165 q165
                    obtain rfl : ad164 = ad165 := (by injection e165)
                    replace p165 := eq_true p165
                    replace q165 := eq_true q165
                    have p166 : 0 ≤ (x5_1 : Int) := of_decide_eq_true (by first | (with_reducible assumption) | assumption)
                    have q166 : x5_1 < (l0.length : Int) := of_decide_eq_true (by first | (with_reducible assumption) | assumption)
                    obtain ⟨ad166, e166, hx166_0, hx166_1, hx166_2, hx166_3, hx166_4⟩ := at_T39 HR0.out x5_1 p166 q166
                    obtain rfl : ad164 = ad166 := (by injection e166)
                    replace p166 := eq_true p166
                    replace q166 := eq_true q166
                    go_wp2
                    repeat (go_quiet (fail); try go_wp2)
                    go_meet
                    case rel => exact ⟨_, (true), (by first | rfl | (simp; done) | (simp [*]; done)), H', ⟨by have := HK1.out; first | omega | exact Nat.le_refl _⟩, by repeat (first | exact Drawn0.refl _ | apply Drawn0.step)⟩
                  · rw [if_neg c9] at H
                    have c9b0 : (((rd_T39 l0 x5_1).f0) == 4) = false := beq_eq_false_iff_ne.mpr c9
                    have c9b1 : (((rd_T39 l0 x5_1).f0) != 4) = true := bne_iff_ne.mpr c9
                    have H' := Aside0.mk H
                    clear H
                    have p164 : 0 ≤ (x5_1 : Int) := of_decide_eq_true (by first | (with_reducible assumption) | assumption)
                    have q164 : x5_1 < (l0.length : Int) := of_decide_eq_true (by first | (with_reducible assumption) | assumption)
                    obtain ⟨ad164, e164, hx164_0, hx164_1, hx164_2, hx164_3, hx164_4⟩ := at_T39 HR0.out x5_1 p164 q164
                    cases e164
                    replace p164 := eq_true p164
                    replace q164 := eq_true q164
                    have p165 : 0 ≤ (a1 : Int) := of_decide_eq_true (by first | (with_reducible assumption) | assumption)
                    have q165 : a1 < (l0.length : Int) := of_decide_eq_true (by first | (with_reducible assumption) | assumption)
                    obtain ⟨ad165, e165, hx165_0, hx165_1, hx165_2, hx165_3, hx165_4⟩ := at_T39 HR0.out a1 p165 q165
                    obtain rfl : ad164 = ad165 := (by injection e165)
                    replace p165 := eq_true p165
                    replace q165 := eq_true q165
                    have p166 : 0 ≤ (x5_1 : Int) := of_decide_eq_true (by first | (with_reducible assumption) | assumption)
                    have q166 : x5_1 < (l0.length : Int) := of_decide_eq_true (by first | (with_reducible assumption) | assumption)
                    obtain ⟨ad166, e166, hx166_0, hx166_1, hx166_2, hx166_3, hx166_4⟩ := at_T39 HR0.out x5_1 p166 q166
                    obtain rfl : ad164 = ad166 := (by injection e166)
                    replace p166 := eq_true p166
                    replace q166 := eq_true q166
                    have p167 : 0 ≤ (x5_1 : Int) := of_decide_eq_true (by first | (with_reducible assumption) | assumption)
                    have q167 : x5_1 < (l0.length : Int) := of_decide_eq_true (by first | (with_reducible assumption) | assumption)
                    obtain ⟨ad167, e167, hx167_0, hx167_1, hx167_2, hx167_3, hx167_4⟩ := at_T39 HR0.out x5_1 p167 q167
                    obtain rfl : ad164 = ad167 := (by injection e167)
                    replace p167 := eq_true p167
                    replace q167 := eq_true q167
                    go_wp2
                    repeat (go_quiet (fail); try go_wp2)
                    go_meet
                    case rel => exact ⟨_, ((((rd_T39 l0 x5_1).f0) == 5)), (by first | rfl | (simp; done) | (simp [*]; done)), H', ⟨by have := HK1.out; first | omega | exact Nat.le_refl _⟩, by repeat (first | exact Drawn0.refl _ | apply Drawn0.step)⟩
                · rw [if_neg c8] at H
                  have c8b0 : (((rd_T39 l0 x5_1).f1) == ((rd_T39 l0 a1).f1)) = false := beq_eq_false_iff_ne.mpr c8
                  have c8b1 : (((rd_T39 l0 x5_1).f1) != ((rd_T39 l0 a1).f1)) = true := bne_iff_ne.mpr c8
                  have H' := Aside0.mk H
                  clear H
                  have p164 : 0 ≤ (x5_1 : Int) := of_decide_eq_true (by first | (with_reducible assumption) | assumption)
                  have q164 : x5_1 < (l0.length : Int) := of_decide_eq_true (by first | (with_reducible assumption) | assumption)
                  obtain ⟨ad164, e164, hx164_0, hx164_1, hx164_2, hx164_3, hx164_4⟩ := at_T39 HR0.out x5_1 p164 q164
                  cases e164
                  replace p164 := eq_true p164
                  replace q164 := eq_true q164
                  have p165 : 0 ≤ (a1 : Int) := of_decide_eq_true (by first | (with_reducible assumption) | assumption)
                  have q165 : a1 < (l0.length : Int) := of_decide_eq_true (by first | (with_reducible assumption) | assumption)
                  obtain ⟨ad165, e165, hx165_0, hx165_1, hx165_2, hx165_3, hx165_4⟩ := at_T39 HR0.out a1 p165 q165
                  obtain rfl : ad164 = ad165 := (by injection e165)
                  replace p165 := eq_true p165
                  replace q165 := eq_true q165
                  go_wp2
                  repeat (go_quiet (fail); try go_wp2)
                  go_meet
                  case rel => exact ⟨_, (false), (by first | rfl | (simp; done) | (simp [*]; done)), H', ⟨by have := HK1.out; first | omega | exact Nat.le_refl _⟩, by repeat (first | exact Drawn0.refl _ | apply Drawn0.step)⟩
              · rw [if_neg c7] at H
                exact absurd H (by simp)
            · rw [if_neg c6] at H
              exact absurd H (by simp)
          · rw [if_neg c5] at H
            exact absurd H (by simp)
        case rest =>
          clear HC4
          try clear p1
          try clear q1
          try clear hx1
          try clear p2
          try clear c3
          try clear c3b0
          try clear c4
          try clear c5
          try clear c5b0
          try clear c6
          try clear c6b0
          try clear p6
          try clear c7
          try clear c7b0
          try clear c8
          try clear c8b0
          try clear c8b1
          try clear c9
          try clear c9b0
          try clear c9b1
          try clear hx164_0
          try clear hx164_1
          try clear hx164_2
          try clear hx164_3
          try clear hx164_4
          try clear hx165_0
          try clear hx165_1
          try clear hx165_2
          try clear hx165_3
          try clear hx165_4
          try clear hx166_0
          try clear hx166_1
          try clear hx166_2
          try clear hx166_3
          try clear hx166_4
          try clear hx167_0
          try clear hx167_1
          try clear hx167_2
          try clear hx167_3
          try clear hx167_4
          try clear p164
          try clear p165
          try clear p166
          try clear p167
          try clear p2
          try clear q164
          try clear q165
          try clear q166
          try clear q167
          obtain ⟨kq, x40_3, rfl, HA, HJ3, ⟨mc3, rfl⟩⟩ := hcut
          cases kq with
          | zero => exact absurd HA.out (by simp [ringworkref25_counts.j1])
          | succ kj3 =>
            have H := HA.out
            clear HA
            simp only [ringworkref25_counts.j1] at H
            by_cases c10 : x40_3 = true
            · subst c10
              have H1 : (some true) = some r := by rw [if_pos rfl] at H; exact H
              clear H
              have H := H1
              clear H1
              obtain rfl := Option.some.inj H
              go_wp2
              repeat (go_quiet (fail); try go_wp2)
              go_ret
              exact ⟨by first | rfl | (simp; done) | (simp [*]; done), by repeat (first | exact Drawn0.refl _ | apply Drawn0.step)⟩
            · replace c10 := Bool.eq_false_iff.mpr c10
              subst c10
              have H1 : (if 0 ≤ x5_1 then (if x5_1 < (l0.length : Int) then (if 0 ≤ a1 then (if a1 < (l0.length : Int) then (if ((rd_T39 l0 x5_1).f1) = ((rd_T39 l0 a1).f1) then (if ((rd_T39 l0 x5_1).f0) = 7 then (some false) else (ringworkref25_counts.l0 kj3 l0 a1 (wrap64 (x5_1 + 1)))) else (ringworkref25_counts.l0 kj3 l0 a1 (wrap64 (x5_1 + 1)))) else (none)) else (none)) else (none)) else (none)) = some r := by rw [if_neg (show ¬ (false = true) by decide)] at H; exact H
              clear H
              have H := H1
              clear H1
              by_cases c11 : 0 ≤ x5_1
              · rw [if_pos c11] at H
                have c11b0 : decide (0 ≤ x5_1) = true := decide_eq_true c11
                clear c11
                by_cases c12 : x5_1 < (l0.length : Int)
                · rw [if_pos c12] at H
                  have c12b0 : decide (x5_1 < (l0.length : Int)) = true := decide_eq_true c12
                  clear c12
                  by_cases c13 : 0 ≤ a1
                  · rw [if_pos c13] at H
                    have c13b0 : decide (0 ≤ a1) = true := decide_eq_true c13
                    clear c13
                    by_cases c14 : a1 < (l0.length : Int)
                    · rw [if_pos c14] at H
                      have c14b0 : decide (a1 < (l0.length : Int)) = true := decide_eq_true c14
                      clear c14
                      by_cases c15 : ((rd_T39 l0 x5_1).f1) = ((rd_T39 l0 a1).f1)
                      · rw [if_pos c15] at H
                        have c15b0 : (((rd_T39 l0 x5_1).f1) == ((rd_T39 l0 a1).f1)) = true := beq_iff_eq.mpr c15
                        have c15b1 : (((rd_T39 l0 x5_1).f1) != ((rd_T39 l0 a1).f1)) = false := bne_eq_false_iff_eq.mpr c15
                        clear c15
                        by_cases c16 : ((rd_T39 l0 x5_1).f0) = 7
                        · rw [if_pos c16] at H
                          have c16b0 : (((rd_T39 l0 x5_1).f0) == 7) = true := beq_iff_eq.mpr c16
                          have c16b1 : (((rd_T39 l0 x5_1).f0) != 7) = false := bne_eq_false_iff_eq.mpr c16
                          clear c16
                          obtain rfl := Option.some.inj H
                          have p168 : 0 ≤ (x5_1 : Int) := of_decide_eq_true (by first | (with_reducible assumption) | assumption)
                          have q168 : x5_1 < (l0.length : Int) := of_decide_eq_true (by first | (with_reducible assumption) | assumption)
                          obtain ⟨ad168, e168, hx168_0, hx168_1, hx168_2, hx168_3, hx168_4⟩ := at_T39 HR0.out x5_1 p168 q168
                          cases e168
                          replace p168 := eq_true p168
                          replace q168 := eq_true q168
                          have p169 : 0 ≤ (a1 : Int) := of_decide_eq_true (by first | (with_reducible assumption) | assumption)
                          have q169 : a1 < (l0.length : Int) := of_decide_eq_true (by first | (with_reducible assumption) | assumption)
                          obtain ⟨ad169, e169, hx169_0, hx169_1, hx169_2, hx169_3, hx169_4⟩ := at_T39 HR0.out a1 p169 q169
                          obtain rfl : ad168 = ad169 := (by injection e169)
                          replace p169 := eq_true p169
                          replace q169 := eq_true q169
                          have p170 : 0 ≤ (x5_1 : Int) := of_decide_eq_true (by first | (with_reducible assumption) | assumption)
                          have q170 : x5_1 < (l0.length : Int) := of_decide_eq_true (by first | (with_reducible assumption) | assumption)
                          obtain ⟨ad170, e170, hx170_0, hx170_1, hx170_2, hx170_3, hx170_4⟩ := at_T39 HR0.out x5_1 p170 q170
                          obtain rfl : ad168 = ad170 := (by injection e170)
                          replace p170 := eq_true p170
                          replace q170 := eq_true q170
                          go_wp2
                          repeat (go_quiet (fail); try go_wp2)
                          go_ret
                          exact ⟨by first | rfl | (simp; done) | (simp [*]; done), by repeat (first | exact Drawn0.refl _ | apply Drawn0.step)⟩
                        · rw [if_neg c16] at H
                          have c16b0 : (((rd_T39 l0 x5_1).f0) == 7) = false := beq_eq_false_iff_ne.mpr c16
                          have c16b1 : (((rd_T39 l0 x5_1).f0) != 7) = true := bne_iff_ne.mpr c16
                          have H' := Aside0.mk H
                          clear H
                          have p168 : 0 ≤ (x5_1 : Int) := of_decide_eq_true (by first | (with_reducible assumption) | assumption)
                          have q168 : x5_1 < (l0.length : Int) := of_decide_eq_true (by first | (with_reducible assumption) | assumption)
                          obtain ⟨ad168, e168, hx168_0, hx168_1, hx168_2, hx168_3, hx168_4⟩ := at_T39 HR0.out x5_1 p168 q168
                          cases e168
                          replace p168 := eq_true p168
                          replace q168 := eq_true q168
                          have p169 : 0 ≤ (a1 : Int) := of_decide_eq_true (by first | (with_reducible assumption) | assumption)
                          have q169 : a1 < (l0.length : Int) := of_decide_eq_true (by first | (with_reducible assumption) | assumption)
                          obtain ⟨ad169, e169, hx169_0, hx169_1, hx169_2, hx169_3, hx169_4⟩ := at_T39 HR0.out a1 p169 q169
                          obtain rfl : ad168 = ad169 := (by injection e169)
                          replace p169 := eq_true p169
                          replace q169 := eq_true q169
                          have p170 : 0 ≤ (x5_1 : Int) := of_decide_eq_true (by first | (with_reducible assumption) | assumption)
                          have q170 : x5_1 < (l0.length : Int) := of_decide_eq_true (by first | (with_reducible assumption) | assumption)
                          obtain ⟨ad170, e170, hx170_0, hx170_1, hx170_2, hx170_3, hx170_4⟩ := at_T39 HR0.out x5_1 p170 q170
                          obtain rfl : ad168 = ad170 := (by injection e170)
                          replace p170 := eq_true p170
                          replace q170 := eq_true q170
                          go_wp2
                          repeat (go_quiet (fail); try go_wp2)
                          go_roundg kj3
                          case measure => have := HK1.out; have := HJ3.out; omega
                          case rel => exact ⟨(wrap64 (x5_1 + 1)), (by first | rfl | (simp; done) | (simp [*]; done)), H', ⟨by have := HK1.out; have := HJ3.out; omega⟩, by repeat (first | exact Drawn0.refl _ | apply Drawn0.step)⟩
                      · rw [if_neg c15] at H
                        have c15b0 : (((rd_T39 l0 x5_1).f1) == ((rd_T39 l0 a1).f1)) = false := beq_eq_false_iff_ne.mpr c15
                        have c15b1 : (((rd_T39 l0 x5_1).f1) != ((rd_T39 l0 a1).f1)) = true := bne_iff_ne.mpr c15
                        have H' := Aside0.mk H
                        clear H
                        have p168 : 0 ≤ (x5_1 : Int) := of_decide_eq_true (by first | (with_reducible assumption) | assumption)
                        have q168 : x5_1 < (l0.length : Int) := of_decide_eq_true (by first | (with_reducible assumption) | assumption)
                        obtain ⟨ad168, e168, hx168_0, hx168_1, hx168_2, hx168_3, hx168_4⟩ := at_T39 HR0.out x5_1 p168 q168
                        cases e168
                        replace p168 := eq_true p168
                        replace q168 := eq_true q168
                        have p169 : 0 ≤ (a1 : Int) := of_decide_eq_true (by first | (with_reducible assumption) | assumption)
                        have q169 : a1 < (l0.length : Int) := of_decide_eq_true (by first | (with_reducible assumption) | assumption)
                        obtain ⟨ad169, e169, hx169_0, hx169_1, hx169_2, hx169_3, hx169_4⟩ := at_T39 HR0.out a1 p169 q169
                        obtain rfl : ad168 = ad169 := (by injection e169)
                        replace p169 := eq_true p169
                        replace q169 := eq_true q169
                        go_wp2
                        repeat (go_quiet (fail); try go_wp2)
                        go_roundg kj3
                        case measure => have := HK1.out; have := HJ3.out; omega
                        case rel => exact ⟨(wrap64 (x5_1 + 1)), (by first | rfl | (simp; done) | (simp [*]; done)), H', ⟨by have := HK1.out; have := HJ3.out; omega⟩, by repeat (first | exact Drawn0.refl _ | apply Drawn0.step)⟩
                    · rw [if_neg c14] at H
                      exact absurd H (by simp)
                  · rw [if_neg c13] at H
                    exact absurd H (by simp)
                · rw [if_neg c12] at H
                  exact absurd H (by simp)
              · rw [if_neg c11] at H
                exact absurd H (by simp)
      · rw [if_neg c3] at H
        have c3b0 : decide (x5_1 < (l0.length : Int)) = false := decide_eq_false c3
        clear c3
        obtain rfl := Option.some.inj H
        go_wp2
        repeat (go_quiet (fail); try go_wp2)
        go_ret
        exact ⟨by first | rfl | (simp; done) | (simp [*]; done), by repeat (first | exact Drawn0.refl _ | apply Drawn0.step)⟩

end Go.Proofs.Yteblpjnkinghoaa.J
namespace Go.Proofs.Yteblpjnkinghoaa.J
open Go.RowKit Go.Proofs.YteblpjnkinghoaaW.PrintWords Go.Proofs.YteblpjnkinghoaaW.PrintLast Go.Proofs.YteblpjnkinghoaaW.PrintMore
attribute [local go_sem] max2_int min2_int max_two min_two max_three min_three max_four min_four   -- for this text's walks alone
set_option linter.unusedVariables false
set_option linter.unusedSimpArgs false
/-! ### ringworkref25_Redo: function 19 -/
mutual
def ringworkref25_Redo.j0 : Nat → List (S39) → Int → Bool → Option ((List (S41)) × Int)
  | 0, _, _, _ => none
  | k + 1, x0, x1, x21 => if x21 = true then (some (([] : List (S41)), 7)) else (ringworkref25_Redo.l0 k x0 ([] : List (S41)) x1)
def ringworkref25_Redo.l0 : Nat → List (S39) → List (S41) → Int → Option ((List (S41)) × Int)
  | 0, _, _, _ => none
  | k + 1, x0, x7, x8 => if x8 < (x0.length : Int) then (if 0 ≤ x8 then (if ((rd_T39 x0 x8).f0) = 3 then ((ringworkref25_counts.f k x0 x8).bind fun t173 => (if t173 = true then (if x7.length < 3518437208883 then (ringworkref25_Redo.l0 k x0 (x7 ++ [(⟨(rd_T39 x0 x8).f2, (rd_T39 x0 x8).f3, (rd_T39 x0 x8).f4⟩ : S41)]) (wrap64 (x8 + 1))) else (none)) else (ringworkref25_Redo.l0 k x0 x7 (wrap64 (x8 + 1))))) else (ringworkref25_Redo.l0 k x0 x7 (wrap64 (x8 + 1)))) else (none)) else (some (x7, 0))
end
def ringworkref25_Redo.f (k : Nat) (l0 : List (S39)) (a1 : Int) : Option ((List (S41)) × Int) := (ringworkref25_right.f k l0).bind fun t171 => (if t171 = 0 then (if a1 < 0 then (ringworkref25_Redo.j0 k l0 a1 true) else (ringworkref25_Redo.j0 k l0 a1 (decide (a1 > (l0.length : Int))))) else (some (([] : List (S41)), t171)))
def ringworkref25_Redo.T11 : Bool × List (List Nat × List Nat) := (true, [([], []), ([], []), ([], []), ([1, 2], [1, 2]), ([3], [3]), ([4], [4]), ([], []), ([], []), ([6, 7], [6, 7]), ([8], [8]), ([9], [9]), ([], []), ([], []), ([11, 12], [11, 12]), ([13], [13]), ([14], [14]), ([5, 10, 15], [5, 10, 15]), ([16], [16]), ([0, 17], [0, 17]), ([18, 18, 0, 1, 2, 3, 4, 5, 6, 7, 8, 9, 10, 11, 12, 13, 14, 15, 16, 17, 18], [0, 18])])
def ringworkref25_Redo.B11 : List Nat := [0, 0, 0, 6, 14, 30, 0, 0, 192, 448, 960, 0, 0, 6144, 14336, 30720, 65534, 131070, 262143, 524287]
theorem ringworkref25_Redo.tab11 : rtab .any (opsOf Try.f19 11) = ringworkref25_Redo.T11 := by kernel_rfl
theorem ringworkref25_Redo.bits11 : waitsOk ringworkref25_Redo.T11.2 ringworkref25_Redo.B11 = true := by kernel_rfl
set_option maxHeartbeats 8000000 in
set_option maxRecDepth 100000 in
theorem ringworkref25_Redo.calls (k : Nat) (A0 : Option Addr) (c0 : Nat) (l0 : List (S39)) (a1 : Int) (r1 : List (S41)) (r2 : Int) (w : World) (hr0 : Kd.C k39 w A0 l0.length l0) (hc0 : l0.length ≤ c0) (h : ringworkref25_Redo.f k l0 a1 = some (r1, r2)) :
    Calls Try.prog 19 #[.slice A0 l0.length c0, .int .i64 a1] w fun e w' => ∃ v0_ : Value, e = .returned (.tuple #[v0_, .int .i64 r2]) ∧ Kd.R k41 41 w' w.heap.size (fun _ => True) v0_ r1 ∧ Below w.heap.size w w' := by
  have hu41 := Try.underlying41
  have HR0 := Aside0.mk hr0
  have HC0 := Aside0.mk hc0
  clear hr0 hc0
  have HB := Aside0.mk (Below.refl w.heap.size w)
  have H : ((ringworkref25_right.f k l0).bind fun t171 => (if t171 = 0 then (if a1 < 0 then (ringworkref25_Redo.j0 k l0 a1 true) else (ringworkref25_Redo.j0 k l0 a1 (decide (a1 > (l0.length : Int))))) else (some (([] : List (S41)), t171)))) = some (r1, r2) := h
  clear h
  replace H := Option.bind_eq_some_iff.mp H
  obtain ⟨t171, A30, H⟩ := H
  replace H : (if t171 = 0 then (if a1 < 0 then (ringworkref25_Redo.j0 k l0 a1 true) else (ringworkref25_Redo.j0 k l0 a1 (decide (a1 > (l0.length : Int))))) else (some (([] : List (S41)), t171))) = some (r1, r2) := H
  have A3 := Aside0.mk A30
  clear A30
  by_cases c4 : t171 = 0
  · rw [if_pos c4] at H
    have c4b0 : (t171 == 0) = true := beq_iff_eq.mpr c4
    have c4b1 : (t171 != 0) = false := bne_eq_false_iff_eq.mpr c4
    clear c4
    have HC5 := Aside0.mk H
    clear H
    go_enter Try.func19, Try.ntmps19
    go_upto_region 4 with (first | ((with_reducible refine gate_callee (f := 34) rfl ?_); refine goesL_ (some 10) rfl rfl Try.func34 (by kernel_rfl) rfl #[.slice A0 l0.length c0] rfl (by (try simp only [List.map_toArray, List.map_cons, List.map_nil]); first | done | rfl | (simp only [List.length_drop, List.length_take]; rfl)) ?_; (with_reducible refine (ringworkref25_right.calls k _ _ l0 t171 _ ?side1 ?side2 A3.out).mono ?_); (case side1 => repeat (first | exact HR0.out | (with_reducible refine Kd.C_alloc ?_ _) | (with_reducible refine Kd.C_drewN ?_ _) | (with_reducible refine Kd.C_drew ?_))); (case side2 => exact HC0.out); rintro e w6 ⟨rfl, hb⟩; refine ⟨_, rfl, ?_⟩; have n0_ := Aside0.mk (below_step (by repeat (first | (with_reducible first | exact HB.out | apply below_alloc | apply pw_below_drewN | apply below_drew1) | exact HB.out)) hb); clear HB; have HB := n0_; clear n0_; (try clear hb); (try clear hb2); (try clear hk); (try clear hi)))
    (try simp only [Act.put, List.setIfInBounds_toArray, List.set_cons_zero, List.set_cons_succ])
    go_cut [21] (fun v21 wc => ∃ (kq : Nat) (x21_4 : Bool), v21 = .bool x21_4 ∧ Aside0 (ringworkref25_Redo.j0 kq l0 a1 x21_4 = some (r1, r2)) ∧ Aside0 (kq ≤ k) ∧ Aside0 (Below w.heap.size w wc))
    case first =>
      have H := HC5.out
      clear HC5
      by_cases c7 : a1 < 0
      · rw [if_pos c7] at H
        have c7b0 : decide (a1 < 0) = true := decide_eq_true c7
        clear c7
        (first | rw [c7b0] | (simp only [i64_w, i32_w]; rw [c7b0]) | skip)
        have H' := Aside0.mk H
        clear H
        go_wp2
        go_meet
        case rel => exact ⟨_, (true), (by first | rfl | (simp; done) | (simp [*]; done)), H', ⟨by first | omega | exact Nat.le_refl _⟩, ⟨by repeat (first | (with_reducible first | exact HB.out | apply below_alloc | apply pw_below_drewN | apply below_drew1) | exact HB.out)⟩⟩
      · rw [if_neg c7] at H
        have c7b0 : decide (a1 < 0) = false := decide_eq_false c7
        clear c7
        (first | rw [c7b0] | (simp only [i64_w, i32_w]; rw [c7b0]) | skip)
        have H' := Aside0.mk H
        clear H
        go_wp2
        go_meet
        case rel => exact ⟨_, (decide (a1 > (l0.length : Int))), (by first | rfl | (simp; done) | (simp [*]; done)), H', ⟨by first | omega | exact Nat.le_refl _⟩, ⟨by repeat (first | (with_reducible first | exact HB.out | apply below_alloc | apply pw_below_drewN | apply below_drew1) | exact HB.out)⟩⟩
    case rest =>
      clear HC5
      try clear c1
      try clear p2
      try clear c3
      try clear c4
      try clear c4b0
      try clear c4b1
      try clear c7
      try clear c7b0
      obtain ⟨kq, x21_4, rfl, HA, HJ4, HB⟩ := hcut
      cases kq with
      | zero => exact absurd HA.out (by simp [ringworkref25_Redo.j0])
      | succ kj4 =>
        have H := HA.out
        clear HA
        simp only [ringworkref25_Redo.j0] at H
        by_cases c8 : x21_4 = true
        · subst c8
          have H1 : (some (([] : List (S41)), 7)) = some (r1, r2) := by rw [if_pos rfl] at H; exact H
          clear H
          have H := H1
          clear H1
          simp only [Option.some.injEq, Prod.mk.injEq] at H
          obtain ⟨rfl, rfl⟩ := H
          go_wp2
          go_ret2
          exact ⟨_, by first | rfl | (simp [errW_none, errW_some] <;> rfl) | (simp [*, errW_none, errW_some] <;> rfl), by first | exact Kd.R_nil _ _ _ _ _ | exact Kd.N_nil _ _ _ _ _ | exact Kd.V_nil _ _ _ _ _ | exact Kd.Q_nil _ _ _ _ _ | exact Kd.S_nil _ _ _ _ _, by repeat (first | (with_reducible first | exact HB.out | apply below_alloc | apply pw_below_drewN | apply below_drew1) | exact HB.out)⟩
        · replace c8 := Bool.eq_false_iff.mpr c8
          subst c8
          have H1 : (ringworkref25_Redo.l0 kj4 l0 ([] : List (S41)) a1) = some (r1, r2) := by rw [if_neg (show ¬ (false = true) by decide)] at H; exact H
          clear H
          have H := H1
          clear H1
          have H' := Aside0.mk H
          clear H
          go_wp2
          go_loopg [7, 8] kj4 (fun kq v7 v8 w' => ∃ (x7_2 : List (S41)) (x8_2 : Int), v8 = .int .i64 x8_2 ∧ Aside0 (ringworkref25_Redo.l0 kq l0 x7_2 x8_2 = some (r1, r2)) ∧ Aside0 (kq ≤ kj4) ∧ Aside0 (Kd.R k41 41 w' w.heap.size (fun _ => True) v7 x7_2) ∧ Aside0 (Below w.heap.size w w'))
          case atStart => exact ⟨(([] : List (S41))), (a1), (by first | rfl | (simp; done) | (simp [*]; done)), H', ⟨Nat.le_refl _⟩, ⟨by first | exact Kd.R_nil _ _ _ _ _ | exact Kd.N_nil _ _ _ _ _ | exact Kd.V_nil _ _ _ _ _ | exact Kd.Q_nil _ _ _ _ _ | exact Kd.S_nil _ _ _ _ _⟩, ⟨by repeat (first | (with_reducible first | exact HB.out | apply below_alloc | apply pw_below_drewN | apply below_drew1) | exact HB.out)⟩⟩
          case round =>
            clear H'
            try clear c1
            try clear p2
            try clear c3
            try clear c4
            try clear c4b0
            try clear c4b1
            try clear c7
            try clear c7b0
            try clear c8
            try clear p2
            obtain ⟨x7_2, x8_2, rfl, HA, HK2, HO_7, HB⟩ := hrel
            cases gk with
            | zero => exact absurd HA.out (by simp [ringworkref25_Redo.l0])
            | succ k2 =>
              have H := HA.out
              clear HA
              simp only [ringworkref25_Redo.l0] at H
              by_cases c9 : x8_2 < (l0.length : Int)
              · rw [if_pos c9] at H
                have c9b0 : decide (x8_2 < (l0.length : Int)) = true := decide_eq_true c9
                clear c9
                by_cases c10 : 0 ≤ x8_2
                · rw [if_pos c10] at H
                  have c10b0 : decide (0 ≤ x8_2) = true := decide_eq_true c10
                  clear c10
                  by_cases c11 : ((rd_T39 l0 x8_2).f0) = 3
                  · rw [if_pos c11] at H
                    have c11b0 : (((rd_T39 l0 x8_2).f0) == 3) = true := beq_iff_eq.mpr c11
                    have c11b1 : (((rd_T39 l0 x8_2).f0) != 3) = false := bne_eq_false_iff_eq.mpr c11
                    clear c11
                    replace H := Option.bind_eq_some_iff.mp H
                    obtain ⟨t173, A120, H⟩ := H
                    replace H : (if t173 = true then (if x7_2.length < 3518437208883 then (ringworkref25_Redo.l0 k2 l0 (x7_2 ++ [(⟨(rd_T39 l0 x8_2).f2, (rd_T39 l0 x8_2).f3, (rd_T39 l0 x8_2).f4⟩ : S41)]) (wrap64 (x8_2 + 1))) else (none)) else (ringworkref25_Redo.l0 k2 l0 x7_2 (wrap64 (x8_2 + 1)))) = some (r1, r2) := H
                    have A12 := Aside0.mk A120
                    clear A120
                    by_cases c13 : t173 = true
                    · subst c13
                      have H1 : (if x7_2.length < 3518437208883 then (ringworkref25_Redo.l0 k2 l0 (x7_2 ++ [(⟨(rd_T39 l0 x8_2).f2, (rd_T39 l0 x8_2).f3, (rd_T39 l0 x8_2).f4⟩ : S41)]) (wrap64 (x8_2 + 1))) else (none)) = some (r1, r2) := by rw [if_pos rfl] at H; exact H
                      clear H
                      have H := H1
                      clear H1
                      by_cases c14 : x7_2.length < 3518437208883
                      · rw [if_pos c14] at H
                        have LMc14 := Aside0.mk c14
                        clear c14
                        obtain ⟨y177, hy177⟩ : ∃ y_ : List (S41), y_ = (x7_2 ++ [(⟨(rd_T39 l0 x8_2).f2, (rd_T39 l0 x8_2).f3, (rd_T39 l0 x8_2).f4⟩ : S41)]) := ⟨_, rfl⟩
                        replace H : (ringworkref25_Redo.l0 k2 l0 y177 (wrap64 (x8_2 + 1))) = some (r1, r2) := by first | (rw [hy177]; with_reducible exact H) | (have H2_ := (Option.bind_some _ _).symm.trans H; rw [hy177]; with_reducible exact H2_) | (have H2_ := (Option.bind_some _ _).symm.trans H; with_reducible exact H2_) | with_reducible exact H | (rw [hy177]; exact H) | exact H
                        have Ny177 := Aside0.mk hy177
                        clear hy177
                        have H' := Aside0.mk H
                        clear H
                        have p172 : 0 ≤ (x8_2 : Int) := of_decide_eq_true (by first | (with_reducible assumption) | assumption)
                        have q172 : x8_2 < (l0.length : Int) := of_decide_eq_true (by first | (with_reducible assumption) | assumption)
                        obtain ⟨ad172, e172, hx172_0, hx172_1, hx172_2, hx172_3, hx172_4⟩ := at_T39 HR0.out x8_2 p172 q172
                        cases e172
                        replace hx172_0 := (HB.out.cell (World.block_lt_of_cell? w _ hx172_0)).trans hx172_0
                        replace hx172_1 := (HB.out.cell (World.block_lt_of_cell? w _ hx172_1)).trans hx172_1
                        replace hx172_2 := (HB.out.cell (World.block_lt_of_cell? w _ hx172_2)).trans hx172_2
                        replace hx172_3 := (HB.out.cell (World.block_lt_of_cell? w _ hx172_3)).trans hx172_3
                        replace hx172_4 := (HB.out.cell (World.block_lt_of_cell? w _ hx172_4)).trans hx172_4
                        replace p172 := eq_true p172
                        replace q172 := eq_true q172
                        try go_wp2_with (first | (go_at_call 41; (with_reducible refine (ringworkref25_counts.calls k2 _ _ l0 x8_2 true _ ?side1 ?side2 A12.out).mono ?_); (case side1 => repeat (first | exact (Kd.C_below HR0.out HB.out) | (with_reducible refine Kd.C_alloc ?_ _) | (with_reducible refine Kd.C_drewN ?_ _) | (with_reducible refine Kd.C_drew ?_))); (case side2 => exact HC0.out); rintro e w' ⟨rfl, ⟨nd, rfl⟩⟩))
                        (try (rw [drewN_self wr]; generalize hq_ : World.drewN wr _ = wr; have n0_ : Aside0 (Kd.R k41 41 wr w.heap.size (fun _ => True) u7 x7_2) := ⟨by rw [← hq_]; exact (by (with_reducible repeat (first | apply Kd.R_alloc | apply Kd.R_drewN | apply Kd.R_drew)); exact HO_7.out)⟩; have n1_ : Aside0 (Below w.heap.size w wr) := ⟨by rw [← hq_]; exact (by repeat (first | (with_reducible first | exact HB.out | apply below_alloc | apply pw_below_drewN | apply below_drew1) | exact HB.out))⟩; clear HO_7 HB hq_; have HO_7 := n0_; have HB := n1_; clear n0_ n1_))
                        have n0_ := Aside0.mk (Kd.R_drew HO_7.out)
                        have n1_ := Aside0.mk (below_drew1 HB.out)
                        clear HO_7
                        clear HB
                        have HO_7 := n0_
                        have HB := n1_
                        clear n0_ n1_
                        have p174 : 0 ≤ (x8_2 : Int) := of_decide_eq_true (by first | (with_reducible assumption) | assumption)
                        have q174 : x8_2 < (l0.length : Int) := of_decide_eq_true (by first | (with_reducible assumption) | assumption)
                        obtain ⟨ad174, e174, hx174_0, hx174_1, hx174_2, hx174_3, hx174_4⟩ := at_T39 HR0.out x8_2 p174 q174
                        have hw174_4 := hx174_4
                        have hw174_3 := hx174_3
                        have hw174_2 := hx174_2
                        have hw174_1 := hx174_1
                        have hw174_0 := hx174_0
                        obtain rfl : ad172 = ad174 := (by injection e174)
                        replace hx174_0 := (HB.out.cell (World.block_lt_of_cell? w _ hx174_0)).trans hx174_0
                        replace hx174_1 := (HB.out.cell (World.block_lt_of_cell? w _ hx174_1)).trans hx174_1
                        replace hx174_2 := (HB.out.cell (World.block_lt_of_cell? w _ hx174_2)).trans hx174_2
                        replace hx174_3 := (HB.out.cell (World.block_lt_of_cell? w _ hx174_3)).trans hx174_3
                        replace hx174_4 := (HB.out.cell (World.block_lt_of_cell? w _ hx174_4)).trans hx174_4
                        replace p174 := eq_true p174
                        replace q174 := eq_true q174
                        have p175 : 0 ≤ (x8_2 : Int) := of_decide_eq_true (by first | (with_reducible assumption) | assumption)
                        have q175 : x8_2 < (l0.length : Int) := of_decide_eq_true (by first | (with_reducible assumption) | assumption)
                        obtain ⟨ad175, e175, hx175_0, hx175_1, hx175_2, hx175_3, hx175_4⟩ := at_T39 HR0.out x8_2 p175 q175
                        have hw175_4 := hx175_4
                        have hw175_3 := hx175_3
                        have hw175_2 := hx175_2
                        have hw175_1 := hx175_1
                        have hw175_0 := hx175_0
                        obtain rfl : ad172 = ad175 := (by injection e175)
                        replace hx175_0 := (HB.out.cell (World.block_lt_of_cell? w _ hx175_0)).trans hx175_0
                        replace hx175_1 := (HB.out.cell (World.block_lt_of_cell? w _ hx175_1)).trans hx175_1
                        replace hx175_2 := (HB.out.cell (World.block_lt_of_cell? w _ hx175_2)).trans hx175_2
                        replace hx175_3 := (HB.out.cell (World.block_lt_of_cell? w _ hx175_3)).trans hx175_3
                        replace hx175_4 := (HB.out.cell (World.block_lt_of_cell? w _ hx175_4)).trans hx175_4
                        replace p175 := eq_true p175
                        replace q175 := eq_true q175
                        have p176 : 0 ≤ (x8_2 : Int) := of_decide_eq_true (by first | (with_reducible assumption) | assumption)
                        have q176 : x8_2 < (l0.length : Int) := of_decide_eq_true (by first | (with_reducible assumption) | assumption)
                        obtain ⟨ad176, e176, hx176_0, hx176_1, hx176_2, hx176_3, hx176_4⟩ := at_T39 HR0.out x8_2 p176 q176
                        have hw176_4 := hx176_4
                        have hw176_3 := hx176_3
                        have hw176_2 := hx176_2
                        have hw176_1 := hx176_1
                        have hw176_0 := hx176_0
                        obtain rfl : ad172 = ad176 := (by injection e176)
                        replace hx176_0 := (HB.out.cell (World.block_lt_of_cell? w _ hx176_0)).trans hx176_0
                        replace hx176_1 := (HB.out.cell (World.block_lt_of_cell? w _ hx176_1)).trans hx176_1
                        replace hx176_2 := (HB.out.cell (World.block_lt_of_cell? w _ hx176_2)).trans hx176_2
                        replace hx176_3 := (HB.out.cell (World.block_lt_of_cell? w _ hx176_3)).trans hx176_3
                        replace hx176_4 := (HB.out.cell (World.block_lt_of_cell? w _ hx176_4)).trans hx176_4
                        replace p176 := eq_true p176
                        replace q176 := eq_true q176
                        refine start_ (n := 20) (S := fun w' => w'.cell? (ad172.add ((x8_2).toNat * 5)) = some (.int .i64 ((rd_T39 l0 x8_2).f0)) ∧ w'.cell? ⟨(ad172.add ((x8_2).toNat * 5)).block, (ad172.add ((x8_2).toNat * 5)).off + 1, none⟩ = some (.int .i64 ((rd_T39 l0 x8_2).f1)) ∧ w'.cell? ⟨(ad172.add ((x8_2).toNat * 5)).block, (ad172.add ((x8_2).toNat * 5)).off + 2, none⟩ = some (.string ((rd_T39 l0 x8_2).f2)) ∧ w'.cell? ⟨(ad172.add ((x8_2).toNat * 5)).block, (ad172.add ((x8_2).toNat * 5)).off + 3, none⟩ = some (.bool ((rd_T39 l0 x8_2).f3)) ∧ w'.cell? ⟨(ad172.add ((x8_2).toNat * 5)).block, (ad172.add ((x8_2).toNat * 5)).off + 4, none⟩ = some (.string ((rd_T39 l0 x8_2).f4)) ∧ w'.cell? (ad172.add ((x8_2).toNat * 5)) = some (.int .i64 ((rd_T39 l0 x8_2).f0)) ∧ w'.cell? ⟨(ad172.add ((x8_2).toNat * 5)).block, (ad172.add ((x8_2).toNat * 5)).off + 1, none⟩ = some (.int .i64 ((rd_T39 l0 x8_2).f1)) ∧ w'.cell? ⟨(ad172.add ((x8_2).toNat * 5)).block, (ad172.add ((x8_2).toNat * 5)).off + 2, none⟩ = some (.string ((rd_T39 l0 x8_2).f2)) ∧ w'.cell? ⟨(ad172.add ((x8_2).toNat * 5)).block, (ad172.add ((x8_2).toNat * 5)).off + 3, none⟩ = some (.bool ((rd_T39 l0 x8_2).f3)) ∧ w'.cell? ⟨(ad172.add ((x8_2).toNat * 5)).block, (ad172.add ((x8_2).toNat * 5)).off + 4, none⟩ = some (.string ((rd_T39 l0 x8_2).f4)) ∧ w'.cell? (ad172.add ((x8_2).toNat * 5)) = some (.int .i64 ((rd_T39 l0 x8_2).f0)) ∧ w'.cell? ⟨(ad172.add ((x8_2).toNat * 5)).block, (ad172.add ((x8_2).toNat * 5)).off + 1, none⟩ = some (.int .i64 ((rd_T39 l0 x8_2).f1)) ∧ w'.cell? ⟨(ad172.add ((x8_2).toNat * 5)).block, (ad172.add ((x8_2).toNat * 5)).off + 2, none⟩ = some (.string ((rd_T39 l0 x8_2).f2)) ∧ w'.cell? ⟨(ad172.add ((x8_2).toNat * 5)).block, (ad172.add ((x8_2).toNat * 5)).off + 3, none⟩ = some (.bool ((rd_T39 l0 x8_2).f3)) ∧ w'.cell? ⟨(ad172.add ((x8_2).toNat * 5)).block, (ad172.add ((x8_2).toNat * 5)).off + 4, none⟩ = some (.string ((rd_T39 l0 x8_2).f4))) (ds := []) #[false, false, false, false, false, false, false, false, false, false, false, false, false, false, false, false, false, false, false, false] (by kernel_rfl) rfl rfl ⟨((HB.out.cell (World.block_lt_of_cell? w _ hw174_0)).trans hw174_0), ((HB.out.cell (World.block_lt_of_cell? w _ hw174_1)).trans hw174_1), ((HB.out.cell (World.block_lt_of_cell? w _ hw174_2)).trans hw174_2), ((HB.out.cell (World.block_lt_of_cell? w _ hw174_3)).trans hw174_3), ((HB.out.cell (World.block_lt_of_cell? w _ hw174_4)).trans hw174_4), ((HB.out.cell (World.block_lt_of_cell? w _ hw175_0)).trans hw175_0), ((HB.out.cell (World.block_lt_of_cell? w _ hw175_1)).trans hw175_1), ((HB.out.cell (World.block_lt_of_cell? w _ hw175_2)).trans hw175_2), ((HB.out.cell (World.block_lt_of_cell? w _ hw175_3)).trans hw175_3), ((HB.out.cell (World.block_lt_of_cell? w _ hw175_4)).trans hw175_4), ((HB.out.cell (World.block_lt_of_cell? w _ hw176_0)).trans hw176_0), ((HB.out.cell (World.block_lt_of_cell? w _ hw176_1)).trans hw176_1), ((HB.out.cell (World.block_lt_of_cell? w _ hw176_2)).trans hw176_2), ((HB.out.cell (World.block_lt_of_cell? w _ hw176_3)).trans hw176_3), ((HB.out.cell (World.block_lt_of_cell? w _ hw176_4)).trans hw176_4)⟩ (fun hHeld => ?_); refine with_tabW ringworkref25_Redo.tab11 ringworkref25_Redo.bits11 (fun HT_ HW_ => ?_)
                        generalize wr.drew = w15 at HO_7 HB hx174_0 hx174_1 hx174_2 hx174_3 hx174_4 hx175_0 hx175_1 hx175_2 hx175_3 hx175_4 hx176_0 hx176_1 hx176_2 hx176_3 hx176_4 hHeld ⊢
                        refine pure_ (i := 0) (N := some 40) (v := ?_) (a' := ?_) #[true, false, false, false, false, false, false, false, false, false, false, false, false, false, false, false, false, false, false, false] rfl rfl (any_of HT_.out (by kernel_rfl)) (fun _ _ _ h => h) (Or.inl ⟨by rfl, ?_⟩) ?_ ?_
                        rotate_left
                        · intro w'
                          go_simp
                          with_reducible rfl
                        rotate_left
                        · simp only [Act.put, List.setIfInBounds_toArray, List.set_cons_zero, List.set_cons_succ, i64_w, i32_w]
                          rfl
                        refine pure_ (i := 1) (N := some 41) (v := ?_) (a' := ?_) #[true, true, false, false, false, false, false, false, false, false, false, false, false, false, false, false, false, false, false, false] rfl rfl (any_of HT_.out (by kernel_rfl)) (fun _ _ _ h => h) (Or.inl ⟨by rfl, ?_⟩) ?_ ?_
                        rotate_left
                        · intro w'
                          go_simp
                          with_reducible rfl
                        rotate_left
                        · simp only [Act.put, List.setIfInBounds_toArray, List.set_cons_zero, List.set_cons_succ, i64_w, i32_w]
                          rfl
                        refine pure_ (i := 2) (N := some 42) (v := ?_) (a' := ?_) #[true, true, true, false, false, false, false, false, false, false, false, false, false, false, false, false, false, false, false, false] rfl rfl (any_of HT_.out (by kernel_rfl)) (fun _ _ _ h => h) (Or.inl ⟨by rfl, ?_⟩) ?_ ?_
                        rotate_left
                        · intro w'
                          go_simp
                          with_reducible rfl
                        rotate_left
                        · simp only [Act.put, List.setIfInBounds_toArray, List.set_cons_zero, List.set_cons_succ, i64_w, i32_w]
                          rfl
                        refine pure_ (i := 3) (N := some 43) (v := ?_) (a' := ?_) #[true, true, true, true, false, false, false, false, false, false, false, false, false, false, false, false, false, false, false, false] rfl rfl (any_of HT_.out (by kernel_rfl)) (fun _ _ _ h => h) (Or.inl ⟨by rfl, ?_⟩) ?_ ?_
                        rotate_left
                        · intro w'
                          go_simp
                          with_reducible rfl
                        rotate_left
                        · simp only [Act.put, List.setIfInBounds_toArray, List.set_cons_zero, List.set_cons_succ, i64_w, i32_w]
                          rfl
                        refine pure_ (i := 4) (N := some 44) (v := ?_) (a' := ?_) #[true, true, true, true, true, false, false, false, false, false, false, false, false, false, false, false, false, false, false, false] rfl rfl (any_of HT_.out (by kernel_rfl)) (fun _ _ _ h => h) (Or.inl ⟨by rfl, ?_⟩) ?_ ?_
                        rotate_left
                        · intro w'
                          go_simp
                          with_reducible rfl
                        rotate_left
                        · simp only [Act.put, List.setIfInBounds_toArray, List.set_cons_zero, List.set_cons_succ, i64_w, i32_w]
                          rfl
                        refine pure_ (i := 6) (N := some 46) (v := ?_) (a' := ?_) #[true, true, true, true, true, false, true, false, false, false, false, false, false, false, false, false, false, false, false, false] rfl rfl (any_of HT_.out (by kernel_rfl)) (fun _ _ _ h => h) (Or.inl ⟨by rfl, ?_⟩) ?_ ?_
                        rotate_left
                        · intro w'
                          go_simp
                          with_reducible rfl
                        rotate_left
                        · simp only [Act.put, List.setIfInBounds_toArray, List.set_cons_zero, List.set_cons_succ, i64_w, i32_w]
                          rfl
                        refine pure_ (i := 7) (N := some 47) (v := ?_) (a' := ?_) #[true, true, true, true, true, false, true, true, false, false, false, false, false, false, false, false, false, false, false, false] rfl rfl (any_of HT_.out (by kernel_rfl)) (fun _ _ _ h => h) (Or.inl ⟨by rfl, ?_⟩) ?_ ?_
                        rotate_left
                        · intro w'
                          go_simp
                          with_reducible rfl
                        rotate_left
                        · simp only [Act.put, List.setIfInBounds_toArray, List.set_cons_zero, List.set_cons_succ, i64_w, i32_w]
                          rfl
                        refine pure_ (i := 8) (N := some 48) (v := ?_) (a' := ?_) #[true, true, true, true, true, false, true, true, true, false, false, false, false, false, false, false, false, false, false, false] rfl rfl (any_of HT_.out (by kernel_rfl)) (fun _ _ _ h => h) (Or.inl ⟨by rfl, ?_⟩) ?_ ?_
                        rotate_left
                        · intro w'
                          go_simp
                          with_reducible rfl
                        rotate_left
                        · simp only [Act.put, List.setIfInBounds_toArray, List.set_cons_zero, List.set_cons_succ, i64_w, i32_w]
                          rfl
                        refine pure_ (i := 9) (N := some 49) (v := ?_) (a' := ?_) #[true, true, true, true, true, false, true, true, true, true, false, false, false, false, false, false, false, false, false, false] rfl rfl (any_of HT_.out (by kernel_rfl)) (fun _ _ _ h => h) (Or.inl ⟨by rfl, ?_⟩) ?_ ?_
                        rotate_left
                        · intro w'
                          go_simp
                          with_reducible rfl
                        rotate_left
                        · simp only [Act.put, List.setIfInBounds_toArray, List.set_cons_zero, List.set_cons_succ, i64_w, i32_w]
                          rfl
                        refine pure_ (i := 11) (N := some 51) (v := ?_) (a' := ?_) #[true, true, true, true, true, false, true, true, true, true, false, true, false, false, false, false, false, false, false, false] rfl rfl (any_of HT_.out (by kernel_rfl)) (fun _ _ _ h => h) (Or.inl ⟨by rfl, ?_⟩) ?_ ?_
                        rotate_left
                        · intro w'
                          go_simp
                          with_reducible rfl
                        rotate_left
                        · simp only [Act.put, List.setIfInBounds_toArray, List.set_cons_zero, List.set_cons_succ, i64_w, i32_w]
                          rfl
                        refine pure_ (i := 12) (N := some 52) (v := ?_) (a' := ?_) #[true, true, true, true, true, false, true, true, true, true, false, true, true, false, false, false, false, false, false, false] rfl rfl (any_of HT_.out (by kernel_rfl)) (fun _ _ _ h => h) (Or.inl ⟨by rfl, ?_⟩) ?_ ?_
                        rotate_left
                        · intro w'
                          go_simp
                          with_reducible rfl
                        rotate_left
                        · simp only [Act.put, List.setIfInBounds_toArray, List.set_cons_zero, List.set_cons_succ, i64_w, i32_w]
                          rfl
                        refine pure_ (i := 13) (N := some 53) (v := ?_) (a' := ?_) #[true, true, true, true, true, false, true, true, true, true, false, true, true, true, false, false, false, false, false, false] rfl rfl (any_of HT_.out (by kernel_rfl)) (fun _ _ _ h => h) (Or.inl ⟨by rfl, ?_⟩) ?_ ?_
                        rotate_left
                        · intro w'
                          go_simp
                          with_reducible rfl
                        rotate_left
                        · simp only [Act.put, List.setIfInBounds_toArray, List.set_cons_zero, List.set_cons_succ, i64_w, i32_w]
                          rfl
                        refine pure_ (i := 14) (N := some 54) (v := ?_) (a' := ?_) #[true, true, true, true, true, false, true, true, true, true, false, true, true, true, true, false, false, false, false, false] rfl rfl (any_of HT_.out (by kernel_rfl)) (fun _ _ _ h => h) (Or.inl ⟨by rfl, ?_⟩) ?_ ?_
                        rotate_left
                        · intro w'
                          go_simp
                          with_reducible rfl
                        rotate_left
                        · simp only [Act.put, List.setIfInBounds_toArray, List.set_cons_zero, List.set_cons_succ, i64_w, i32_w]
                          rfl
                        refine take_ (i := 5) (N := some 45) (v := ?_) (a' := ?_) #[true, true, true, true, true, true, true, true, true, true, false, true, true, true, true, false, false, false, false, false] rfl rfl (take_ofW HT_.out HW_.out (by kernel_rfl)) (fun _ _ _ h => h) (Or.inl ⟨by rfl, ?_⟩) hHeld ?_ ?_
                        rotate_left
                        · rintro w' ⟨s0, s1, s2, s3, s4, s5, s6, s7, s8, s9, s10, s11, s12, s13, s14⟩
                          go_simp
                          with_reducible rfl
                        rotate_left
                        · simp only [Act.put, List.setIfInBounds_toArray, List.set_cons_zero, List.set_cons_succ, i64_w, i32_w]
                          rfl
                        refine take_ (i := 10) (N := some 50) (v := ?_) (a' := ?_) #[true, true, true, true, true, true, true, true, true, true, true, true, true, true, true, false, false, false, false, false] rfl rfl (take_ofW HT_.out HW_.out (by kernel_rfl)) (fun _ _ _ h => h) (Or.inl ⟨by rfl, ?_⟩) hHeld ?_ ?_
                        rotate_left
                        · rintro w' ⟨s0, s1, s2, s3, s4, s5, s6, s7, s8, s9, s10, s11, s12, s13, s14⟩
                          go_simp
                          with_reducible rfl
                        rotate_left
                        · simp only [Act.put, List.setIfInBounds_toArray, List.set_cons_zero, List.set_cons_succ, i64_w, i32_w]
                          rfl
                        refine take_ (i := 15) (N := some 55) (v := ?_) (a' := ?_) #[true, true, true, true, true, true, true, true, true, true, true, true, true, true, true, true, false, false, false, false] rfl rfl (take_ofW HT_.out HW_.out (by kernel_rfl)) (fun _ _ _ h => h) (Or.inl ⟨by rfl, ?_⟩) hHeld ?_ ?_
                        rotate_left
                        · rintro w' ⟨s0, s1, s2, s3, s4, s5, s6, s7, s8, s9, s10, s11, s12, s13, s14⟩
                          go_simp
                          with_reducible rfl
                        rotate_left
                        · simp only [Act.put, List.setIfInBounds_toArray, List.set_cons_zero, List.set_cons_succ, i64_w, i32_w]
                          rfl
                        refine pure_ (i := 16) (N := some 56) (v := ?_) (a' := ?_) #[true, true, true, true, true, true, true, true, true, true, true, true, true, true, true, true, true, false, false, false] rfl rfl (any_of HT_.out (by kernel_rfl)) (fun _ _ _ h => h) (Or.inl ⟨by rfl, ?_⟩) ?_ ?_
                        rotate_left
                        · intro w'
                          go_simp
                          with_reducible rfl
                        rotate_left
                        · simp only [Act.put, List.setIfInBounds_toArray, List.set_cons_zero, List.set_cons_succ, i64_w, i32_w]
                          rfl
                        refine one_ (i := 17) (N := some 57) #[true, true, true, true, true, true, true, true, true, true, true, true, true, true, true, true, true, true, false, false] rfl rfl (one_of HT_.out (by kernel_rfl)) (by decide) (fun K hK => ?_)
                        refine value_ (w1 := ?_) (v := ?_) (by rfl) rfl ?_ ?_
                        rotate_left 2
                        · go_simp
                          constructor
                          · rfl
                          · rfl
                        refine hK.out _ _ ⟨(World.cell?_alloc_lt _ _ _ (World.block_lt_of_cell? _ _ (((HB.out.cell (World.block_lt_of_cell? w _ hw174_0)).trans hw174_0)))).trans (((HB.out.cell (World.block_lt_of_cell? w _ hw174_0)).trans hw174_0)), (World.cell?_alloc_lt _ _ _ (World.block_lt_of_cell? _ _ (((HB.out.cell (World.block_lt_of_cell? w _ hw174_1)).trans hw174_1)))).trans (((HB.out.cell (World.block_lt_of_cell? w _ hw174_1)).trans hw174_1)), (World.cell?_alloc_lt _ _ _ (World.block_lt_of_cell? _ _ (((HB.out.cell (World.block_lt_of_cell? w _ hw174_2)).trans hw174_2)))).trans (((HB.out.cell (World.block_lt_of_cell? w _ hw174_2)).trans hw174_2)), (World.cell?_alloc_lt _ _ _ (World.block_lt_of_cell? _ _ (((HB.out.cell (World.block_lt_of_cell? w _ hw174_3)).trans hw174_3)))).trans (((HB.out.cell (World.block_lt_of_cell? w _ hw174_3)).trans hw174_3)), (World.cell?_alloc_lt _ _ _ (World.block_lt_of_cell? _ _ (((HB.out.cell (World.block_lt_of_cell? w _ hw174_4)).trans hw174_4)))).trans (((HB.out.cell (World.block_lt_of_cell? w _ hw174_4)).trans hw174_4)), (World.cell?_alloc_lt _ _ _ (World.block_lt_of_cell? _ _ (((HB.out.cell (World.block_lt_of_cell? w _ hw175_0)).trans hw175_0)))).trans (((HB.out.cell (World.block_lt_of_cell? w _ hw175_0)).trans hw175_0)), (World.cell?_alloc_lt _ _ _ (World.block_lt_of_cell? _ _ (((HB.out.cell (World.block_lt_of_cell? w _ hw175_1)).trans hw175_1)))).trans (((HB.out.cell (World.block_lt_of_cell? w _ hw175_1)).trans hw175_1)), (World.cell?_alloc_lt _ _ _ (World.block_lt_of_cell? _ _ (((HB.out.cell (World.block_lt_of_cell? w _ hw175_2)).trans hw175_2)))).trans (((HB.out.cell (World.block_lt_of_cell? w _ hw175_2)).trans hw175_2)), (World.cell?_alloc_lt _ _ _ (World.block_lt_of_cell? _ _ (((HB.out.cell (World.block_lt_of_cell? w _ hw175_3)).trans hw175_3)))).trans (((HB.out.cell (World.block_lt_of_cell? w _ hw175_3)).trans hw175_3)), (World.cell?_alloc_lt _ _ _ (World.block_lt_of_cell? _ _ (((HB.out.cell (World.block_lt_of_cell? w _ hw175_4)).trans hw175_4)))).trans (((HB.out.cell (World.block_lt_of_cell? w _ hw175_4)).trans hw175_4)), (World.cell?_alloc_lt _ _ _ (World.block_lt_of_cell? _ _ (((HB.out.cell (World.block_lt_of_cell? w _ hw176_0)).trans hw176_0)))).trans (((HB.out.cell (World.block_lt_of_cell? w _ hw176_0)).trans hw176_0)), (World.cell?_alloc_lt _ _ _ (World.block_lt_of_cell? _ _ (((HB.out.cell (World.block_lt_of_cell? w _ hw176_1)).trans hw176_1)))).trans (((HB.out.cell (World.block_lt_of_cell? w _ hw176_1)).trans hw176_1)), (World.cell?_alloc_lt _ _ _ (World.block_lt_of_cell? _ _ (((HB.out.cell (World.block_lt_of_cell? w _ hw176_2)).trans hw176_2)))).trans (((HB.out.cell (World.block_lt_of_cell? w _ hw176_2)).trans hw176_2)), (World.cell?_alloc_lt _ _ _ (World.block_lt_of_cell? _ _ (((HB.out.cell (World.block_lt_of_cell? w _ hw176_3)).trans hw176_3)))).trans (((HB.out.cell (World.block_lt_of_cell? w _ hw176_3)).trans hw176_3)), (World.cell?_alloc_lt _ _ _ (World.block_lt_of_cell? _ _ (((HB.out.cell (World.block_lt_of_cell? w _ hw176_4)).trans hw176_4)))).trans (((HB.out.cell (World.block_lt_of_cell? w _ hw176_4)).trans hw176_4))⟩ (fun hHeld => ?_)
                        clear hK K
                        refine norm_ (a' := ?_) ?_ ?_
                        rotate_left
                        · show Act.put _ (some 57) _ = _
                          simp only [Act.put, List.setIfInBounds_toArray, List.set_cons_zero, List.set_cons_succ, i64_w, i32_w]
                          rfl
                        refine one_ (i := 18) (N := some 58) #[true, true, true, true, true, true, true, true, true, true, true, true, true, true, true, true, true, true, true, false] rfl rfl (one_of HT_.out (by kernel_rfl)) (by decide) (fun K hK => ?_)
                        refine Kd.R_append_step k41 (w0 := w) w.heap.size (by rfl) (.tmp 40) (.tmp 57) 22 41 (.agg #[(.string ⟨#[]⟩), (.bool false), (.string ⟨#[]⟩)]) 40 rfl Try.underlying22 info41 rfl (by decide) (by omega) u7 x7_2 (⟨(rd_T39 l0 x8_2).f2, (rd_T39 l0 x8_2).f3, (rd_T39 l0 x8_2).f4⟩ : S41) [.string ((rd_T39 l0 x8_2).f2), .bool ((rd_T39 l0 x8_2).f3), .string ((rd_T39 l0 x8_2).f4)] (fun _ => True) (fun _ => False) rfl rfl ?aP (fun _ hk => hk.elim) ?aF ?aO ?aB ?aS ?aL ?_
                        (case aP => exact k41_mkM _ _ _ (⟨(rd_T39 l0 x8_2).f2, (rd_T39 l0 x8_2).f3, (rd_T39 l0 x8_2).f4⟩ : S41))
                        (case aB => exact (by repeat (first | (with_reducible first | exact HB.out | apply below_alloc | apply pw_below_drewN | apply below_drew1) | exact HB.out)))
                        (case aF => exact (fun _ _ => trivial))
                        (case aO => exact (by (with_reducible repeat (first | apply Kd.R_alloc | apply Kd.R_drewN | apply Kd.R_drew)); exact HO_7.out))
                        (case aS => exact (below_size (by repeat (first | (with_reducible first | exact HB.out | apply below_alloc | apply pw_below_drewN | apply below_drew1) | exact HB.out))))
                        (case aL => have := LMc14.out; omega)
                        intro v178 w16 ho hb hg hat
                        rw [← Ny177.out] at ho
                        have n0_ := Aside0.mk (hb)
                        have n1_ := Aside0.mk (ho)
                        clear HB
                        clear HO_7
                        have HB := n0_
                        have HO179 := n1_
                        clear n0_ n1_
                        clear ho hb hg hat
                        refine hK.out _ _ ⟨((HB.out.cell (World.block_lt_of_cell? w _ hw174_0)).trans hw174_0), ((HB.out.cell (World.block_lt_of_cell? w _ hw174_1)).trans hw174_1), ((HB.out.cell (World.block_lt_of_cell? w _ hw174_2)).trans hw174_2), ((HB.out.cell (World.block_lt_of_cell? w _ hw174_3)).trans hw174_3), ((HB.out.cell (World.block_lt_of_cell? w _ hw174_4)).trans hw174_4), ((HB.out.cell (World.block_lt_of_cell? w _ hw175_0)).trans hw175_0), ((HB.out.cell (World.block_lt_of_cell? w _ hw175_1)).trans hw175_1), ((HB.out.cell (World.block_lt_of_cell? w _ hw175_2)).trans hw175_2), ((HB.out.cell (World.block_lt_of_cell? w _ hw175_3)).trans hw175_3), ((HB.out.cell (World.block_lt_of_cell? w _ hw175_4)).trans hw175_4), ((HB.out.cell (World.block_lt_of_cell? w _ hw176_0)).trans hw176_0), ((HB.out.cell (World.block_lt_of_cell? w _ hw176_1)).trans hw176_1), ((HB.out.cell (World.block_lt_of_cell? w _ hw176_2)).trans hw176_2), ((HB.out.cell (World.block_lt_of_cell? w _ hw176_3)).trans hw176_3), ((HB.out.cell (World.block_lt_of_cell? w _ hw176_4)).trans hw176_4)⟩ (fun hHeld => ?_)
                        clear hK K
                        refine norm_ (a' := ?_) ?_ ?_
                        rotate_left
                        · show Act.put _ (some 58) _ = _
                          simp only [Act.put, List.setIfInBounds_toArray, List.set_cons_zero, List.set_cons_succ, i64_w, i32_w]
                          rfl
                        refine pure_ (i := 19) (N := some 7) (v := ?_) (a' := ?_) #[true, true, true, true, true, true, true, true, true, true, true, true, true, true, true, true, true, true, true, true] rfl rfl (any_of HT_.out (by kernel_rfl)) (fun _ _ _ h => h) (Or.inl ⟨by rfl, ?_⟩) ?_ ?_
                        rotate_left
                        · intro w'
                          go_simp
                          with_reducible rfl
                        rotate_left
                        · simp only [Act.put, List.setIfInBounds_toArray, List.set_cons_zero, List.set_cons_succ, i64_w, i32_w]
                          rfl
                        refine done_ (done_of HT_.out (by kernel_rfl)) ?_
                        try go_wp2
                        go_roundg k2
                        case measure => have := HJ4.out; have := HK2.out; omega
                        case rel => exact ⟨(y177), (wrap64 (x8_2 + 1)), (by first | rfl | (simp; done) | (simp [*]; done)), H', ⟨by have := HJ4.out; have := HK2.out; omega⟩, ⟨by (with_reducible repeat (first | apply Kd.R_alloc | apply Kd.R_drewN | apply Kd.R_drew)); exact HO179.out⟩, ⟨by repeat (first | (with_reducible first | exact HB.out | apply below_alloc | apply pw_below_drewN | apply below_drew1) | exact HB.out)⟩⟩
                      · rw [if_neg c14] at H
                        exact absurd H (by simp)
                    · replace c13 := Bool.eq_false_iff.mpr c13
                      subst c13
                      have H1 : (ringworkref25_Redo.l0 k2 l0 x7_2 (wrap64 (x8_2 + 1))) = some (r1, r2) := by rw [if_neg (show ¬ (false = true) by decide)] at H; exact H
                      clear H
                      have H := H1
                      clear H1
                      have H' := Aside0.mk H
                      clear H
                      have p172 : 0 ≤ (x8_2 : Int) := of_decide_eq_true (by first | (with_reducible assumption) | assumption)
                      have q172 : x8_2 < (l0.length : Int) := of_decide_eq_true (by first | (with_reducible assumption) | assumption)
                      obtain ⟨ad172, e172, hx172_0, hx172_1, hx172_2, hx172_3, hx172_4⟩ := at_T39 HR0.out x8_2 p172 q172
                      cases e172
                      replace hx172_0 := (HB.out.cell (World.block_lt_of_cell? w _ hx172_0)).trans hx172_0
                      replace hx172_1 := (HB.out.cell (World.block_lt_of_cell? w _ hx172_1)).trans hx172_1
                      replace hx172_2 := (HB.out.cell (World.block_lt_of_cell? w _ hx172_2)).trans hx172_2
                      replace hx172_3 := (HB.out.cell (World.block_lt_of_cell? w _ hx172_3)).trans hx172_3
                      replace hx172_4 := (HB.out.cell (World.block_lt_of_cell? w _ hx172_4)).trans hx172_4
                      replace p172 := eq_true p172
                      replace q172 := eq_true q172
                      go_wp2_with (first | (go_at_call 41; (with_reducible refine (ringworkref25_counts.calls k2 _ _ l0 x8_2 false _ ?side1 ?side2 A12.out).mono ?_); (case side1 => repeat (first | exact (Kd.C_below HR0.out HB.out) | (with_reducible refine Kd.C_alloc ?_ _) | (with_reducible refine Kd.C_drewN ?_ _) | (with_reducible refine Kd.C_drew ?_))); (case side2 => exact HC0.out); rintro e w' ⟨rfl, ⟨nd, rfl⟩⟩))
                      go_roundg k2
                      case measure => have := HJ4.out; have := HK2.out; omega
                      case rel => exact ⟨(x7_2), (wrap64 (x8_2 + 1)), (by first | rfl | (simp; done) | (simp [*]; done)), H', ⟨by have := HJ4.out; have := HK2.out; omega⟩, ⟨by (with_reducible repeat (first | apply Kd.R_alloc | apply Kd.R_drewN | apply Kd.R_drew)); exact HO_7.out⟩, ⟨by repeat (first | (with_reducible first | exact HB.out | apply below_alloc | apply pw_below_drewN | apply below_drew1) | exact HB.out)⟩⟩
                  · rw [if_neg c11] at H
                    have c11b0 : (((rd_T39 l0 x8_2).f0) == 3) = false := beq_eq_false_iff_ne.mpr c11
                    have c11b1 : (((rd_T39 l0 x8_2).f0) != 3) = true := bne_iff_ne.mpr c11
                    have H' := Aside0.mk H
                    clear H
                    have p172 : 0 ≤ (x8_2 : Int) := of_decide_eq_true (by first | (with_reducible assumption) | assumption)
                    have q172 : x8_2 < (l0.length : Int) := of_decide_eq_true (by first | (with_reducible assumption) | assumption)
                    obtain ⟨ad172, e172, hx172_0, hx172_1, hx172_2, hx172_3, hx172_4⟩ := at_T39 HR0.out x8_2 p172 q172
                    cases e172
                    replace hx172_0 := (HB.out.cell (World.block_lt_of_cell? w _ hx172_0)).trans hx172_0
                    replace hx172_1 := (HB.out.cell (World.block_lt_of_cell? w _ hx172_1)).trans hx172_1
                    replace hx172_2 := (HB.out.cell (World.block_lt_of_cell? w _ hx172_2)).trans hx172_2
                    replace hx172_3 := (HB.out.cell (World.block_lt_of_cell? w _ hx172_3)).trans hx172_3
                    replace hx172_4 := (HB.out.cell (World.block_lt_of_cell? w _ hx172_4)).trans hx172_4
                    replace p172 := eq_true p172
                    replace q172 := eq_true q172
                    go_wp2
                    go_roundg k2
                    case measure => have := HJ4.out; have := HK2.out; omega
                    case rel => exact ⟨(x7_2), (wrap64 (x8_2 + 1)), (by first | rfl | (simp; done) | (simp [*]; done)), H', ⟨by have := HJ4.out; have := HK2.out; omega⟩, ⟨by (with_reducible repeat (first | apply Kd.R_alloc | apply Kd.R_drewN | apply Kd.R_drew)); exact HO_7.out⟩, ⟨by repeat (first | (with_reducible first | exact HB.out | apply below_alloc | apply pw_below_drewN | apply below_drew1) | exact HB.out)⟩⟩
                · rw [if_neg c10] at H
                  exact absurd H (by simp)
              · rw [if_neg c9] at H
                have c9b0 : decide (x8_2 < (l0.length : Int)) = false := decide_eq_false c9
                clear c9
                simp only [Option.some.injEq, Prod.mk.injEq] at H
                obtain ⟨rfl, rfl⟩ := H
                go_wp2
                go_ret2
                exact ⟨_, by first | rfl | (simp [errW_none, errW_some] <;> rfl) | (simp [*, errW_none, errW_some] <;> rfl), by (with_reducible repeat (first | apply Kd.R_alloc | apply Kd.R_drewN | apply Kd.R_drew)); exact HO_7.out, by repeat (first | (with_reducible first | exact HB.out | apply below_alloc | apply pw_below_drewN | apply below_drew1) | exact HB.out)⟩
  · rw [if_neg c4] at H
    have c4b0 : (t171 == 0) = false := beq_eq_false_iff_ne.mpr c4
    have c4b1 : (t171 != 0) = true := bne_iff_ne.mpr c4
    simp only [Option.some.injEq, Prod.mk.injEq] at H
    obtain ⟨rfl, rfl⟩ := H
    go_enter Try.func19, Try.ntmps19
    go_wp2_with (first | ((with_reducible refine gate_callee (f := 34) rfl ?_); refine goesL_ (some 10) rfl rfl Try.func34 (by kernel_rfl) rfl #[.slice A0 l0.length c0] rfl (by (try simp only [List.map_toArray, List.map_cons, List.map_nil]); first | done | rfl | (simp only [List.length_drop, List.length_take]; rfl)) ?_; (with_reducible refine (ringworkref25_right.calls k _ _ l0 t171 _ ?side1 ?side2 A3.out).mono ?_); (case side1 => repeat (first | exact HR0.out | (with_reducible refine Kd.C_alloc ?_ _) | (with_reducible refine Kd.C_drewN ?_ _) | (with_reducible refine Kd.C_drew ?_))); (case side2 => exact HC0.out); rintro e w17 ⟨rfl, hb⟩; refine ⟨_, rfl, ?_⟩; have n0_ := Aside0.mk (below_step (by repeat (first | (with_reducible first | exact HB.out | apply below_alloc | apply pw_below_drewN | apply below_drew1) | exact HB.out)) hb); clear HB; have HB := n0_; clear n0_; (try clear hb); (try clear hb2); (try clear hk); (try clear hi)))
    go_ret2
    exact ⟨_, by first | rfl | (simp [errW_none, errW_some] <;> rfl) | (simp [*, errW_none, errW_some] <;> rfl), by first | exact Kd.R_nil _ _ _ _ _ | exact Kd.N_nil _ _ _ _ _ | exact Kd.V_nil _ _ _ _ _ | exact Kd.Q_nil _ _ _ _ _ | exact Kd.S_nil _ _ _ _ _, by repeat (first | (with_reducible first | exact HB.out | apply below_alloc | apply pw_below_drewN | apply below_drew1) | exact HB.out)⟩

/-! ### ringworkref25_images: function 52 -/
def ringworkref25_images.l0 : Nat → List (S41) → Int → Option (Bool)
  | 0, _, _ => none
  | k + 1, x0, x3 => if x3 < (x0.length : Int) then (if 0 ≤ x3 then ((ringworkref25_image.f ((rd_T41 x0 x3).f0) ((rd_T41 x0 x3).f1) ((rd_T41 x0 x3).f2)).bind fun t181 => (if t181 = true then (ringworkref25_images.l0 k x0 (wrap64 (x3 + 1))) else (some false))) else (none)) else (some true)
def ringworkref25_images.f (k : Nat) (l0 : List (S41)) : Option (Bool) := ringworkref25_images.l0 k l0 0
theorem ringworkref25_images.mono_l : ∀ k, (∀ y0 y1, LeO (ringworkref25_images.l0 k y0 y1) (ringworkref25_images.l0 (k + 1) y0 y1))
  | 0 => fun _ _ r h => by simp [ringworkref25_images.l0] at h
  | k + 1 => by
    have ih0 := ringworkref25_images.mono_l k
    · intro y0 y1
      unfold ringworkref25_images.l0
      repeat' first
      | (with_reducible exact ih0 _ _)
      | (with_reducible exact LeO.refl _)
      | (with_reducible exact LeO.none _)
      | (with_reducible refine LeO.ite ?_ ?_)
      | (with_reducible refine LeO.bind ?_ (fun _ => ?_))
      | exact ih0 _ _
      | exact LeO.none _
      | refine LeO.ite ?_ ?_
      | refine LeO.bind ?_ (fun _ => ?_)
theorem ringworkref25_images.mono : ∀ a0 k, LeO (ringworkref25_images.f k a0) (ringworkref25_images.f (k + 1) a0) := by
  intro a0 k
  have ih0 := ringworkref25_images.mono_l k
  unfold ringworkref25_images.f
  repeat' first
      | (with_reducible exact ih0 _ _)
      | (with_reducible exact LeO.refl _)
      | (with_reducible exact LeO.none _)
      | (with_reducible refine LeO.ite ?_ ?_)
      | (with_reducible refine LeO.bind ?_ (fun _ => ?_))
      | exact ih0 _ _
      | exact LeO.none _
      | refine LeO.ite ?_ ?_
      | refine LeO.bind ?_ (fun _ => ?_)
set_option maxHeartbeats 8000000 in
set_option maxRecDepth 100000 in
theorem ringworkref25_images.calls (k : Nat) (A0 : Option Addr) (c0 : Nat) (l0 : List (S41)) (r : Bool) (w : World) (hr0 : Kd.C k41 w A0 l0.length l0) (hc0 : l0.length ≤ c0) (h : ringworkref25_images.f k l0 = some r) :
    Calls Try.prog 52 #[.slice A0 l0.length c0] w fun e w' => e = .returned (.bool r) ∧ Below w.heap.size w w' := by
  have hu41 := Try.underlying41
  have HR0 := Aside0.mk hr0
  have HC0 := Aside0.mk hc0
  clear hr0 hc0
  have HB := Aside0.mk (Below.refl w.heap.size w)
  have H : (ringworkref25_images.l0 k l0 0) = some r := h
  clear h
  have H' := Aside0.mk H
  clear H
  go_enter Try.func52, Try.ntmps52
  go_wp2
  go_loopg [3] k (fun kq v3 w' => ∃ (x3_1 : Int), v3 = .int .i64 x3_1 ∧ Aside0 (ringworkref25_images.l0 kq l0 x3_1 = some r) ∧ Aside0 (kq ≤ k) ∧ Aside0 (Below w.heap.size w w'))
  case atStart => exact ⟨(0), (by first | rfl | (simp; done) | (simp [*]; done)), H', ⟨Nat.le_refl _⟩, ⟨by repeat (first | (with_reducible first | exact HB.out | apply below_alloc | apply pw_below_drewN | apply below_drew1) | exact HB.out)⟩⟩
  case round =>
    clear H'
    obtain ⟨x3_1, rfl, HA, HK1, HB⟩ := hrel
    cases gk with
    | zero => exact absurd HA.out (by simp [ringworkref25_images.l0])
    | succ k1 =>
      have H := HA.out
      clear HA
      simp only [ringworkref25_images.l0] at H
      by_cases c2 : x3_1 < (l0.length : Int)
      · rw [if_pos c2] at H
        have c2b0 : decide (x3_1 < (l0.length : Int)) = true := decide_eq_true c2
        clear c2
        by_cases c3 : 0 ≤ x3_1
        · rw [if_pos c3] at H
          have c3b0 : decide (0 ≤ x3_1) = true := decide_eq_true c3
          clear c3
          replace H := Option.bind_eq_some_iff.mp H
          obtain ⟨t181, A40, H⟩ := H
          replace H : (if t181 = true then (ringworkref25_images.l0 k1 l0 (wrap64 (x3_1 + 1))) else (some false)) = some r := H
          have A4 := Aside0.mk A40
          clear A40
          by_cases c5 : t181 = true
          · subst c5
            have H1 : (ringworkref25_images.l0 k1 l0 (wrap64 (x3_1 + 1))) = some r := by rw [if_pos rfl] at H; exact H
            clear H
            have H := H1
            clear H1
            have H' := Aside0.mk H
            clear H
            have p180 : 0 ≤ (x3_1 : Int) := of_decide_eq_true (by first | (with_reducible assumption) | assumption)
            have q180 : x3_1 < (l0.length : Int) := of_decide_eq_true (by first | (with_reducible assumption) | assumption)
            obtain ⟨ad180, e180, hx180_0, hx180_1, hx180_2⟩ := at_T41 HR0.out x3_1 p180 q180
            cases e180
            replace hx180_0 := (HB.out.cell (World.block_lt_of_cell? w _ hx180_0)).trans hx180_0
            replace hx180_1 := (HB.out.cell (World.block_lt_of_cell? w _ hx180_1)).trans hx180_1
            replace hx180_2 := (HB.out.cell (World.block_lt_of_cell? w _ hx180_2)).trans hx180_2
            replace p180 := eq_true p180
            replace q180 := eq_true q180
            go_wp2_with (first | ((with_reducible refine gate_callee (f := 59) rfl ?_); refine goesL_ (some 14) rfl rfl Try.func59 (by kernel_rfl) rfl #[.agg #[.string ((rd_T41 l0 x3_1).f0), .bool ((rd_T41 l0 x3_1).f1), .string ((rd_T41 l0 x3_1).f2)]] rfl (by (try simp only [List.map_toArray, List.map_cons, List.map_nil]); first | done | rfl | (simp only [List.length_drop, List.length_take]; rfl)) ?_; (with_reducible refine (ringworkref25_image.calls ((rd_T41 l0 x3_1).f0) ((rd_T41 l0 x3_1).f1) ((rd_T41 l0 x3_1).f2) true _ A4.out).mono ?_); rintro e w6 ⟨rfl, hb⟩; refine ⟨_, rfl, ?_⟩; have n0_ := Aside0.mk (below_step (by repeat (first | (with_reducible first | exact HB.out | apply below_alloc | apply pw_below_drewN | apply below_drew1) | exact HB.out)) hb); clear HB; have HB := n0_; clear n0_; (try clear hb); (try clear hb2); (try clear hk); (try clear hi)))
            go_roundg k1
            case measure => have := HK1.out; omega
            case rel => exact ⟨(wrap64 (x3_1 + 1)), (by first | rfl | (simp; done) | (simp [*]; done)), H', ⟨by have := HK1.out; omega⟩, ⟨by repeat (first | (with_reducible first | exact HB.out | apply below_alloc | apply pw_below_drewN | apply below_drew1) | exact HB.out)⟩⟩
          · replace c5 := Bool.eq_false_iff.mpr c5
            subst c5
            have H1 : (some false) = some r := by rw [if_neg (show ¬ (false = true) by decide)] at H; exact H
            clear H
            have H := H1
            clear H1
            obtain rfl := Option.some.inj H
            have p180 : 0 ≤ (x3_1 : Int) := of_decide_eq_true (by first | (with_reducible assumption) | assumption)
            have q180 : x3_1 < (l0.length : Int) := of_decide_eq_true (by first | (with_reducible assumption) | assumption)
            obtain ⟨ad180, e180, hx180_0, hx180_1, hx180_2⟩ := at_T41 HR0.out x3_1 p180 q180
            cases e180
            replace hx180_0 := (HB.out.cell (World.block_lt_of_cell? w _ hx180_0)).trans hx180_0
            replace hx180_1 := (HB.out.cell (World.block_lt_of_cell? w _ hx180_1)).trans hx180_1
            replace hx180_2 := (HB.out.cell (World.block_lt_of_cell? w _ hx180_2)).trans hx180_2
            replace p180 := eq_true p180
            replace q180 := eq_true q180
            go_wp2_with (first | ((with_reducible refine gate_callee (f := 59) rfl ?_); refine goesL_ (some 14) rfl rfl Try.func59 (by kernel_rfl) rfl #[.agg #[.string ((rd_T41 l0 x3_1).f0), .bool ((rd_T41 l0 x3_1).f1), .string ((rd_T41 l0 x3_1).f2)]] rfl (by (try simp only [List.map_toArray, List.map_cons, List.map_nil]); first | done | rfl | (simp only [List.length_drop, List.length_take]; rfl)) ?_; (with_reducible refine (ringworkref25_image.calls ((rd_T41 l0 x3_1).f0) ((rd_T41 l0 x3_1).f1) ((rd_T41 l0 x3_1).f2) false _ A4.out).mono ?_); rintro e w7 ⟨rfl, hb⟩; refine ⟨_, rfl, ?_⟩; have n0_ := Aside0.mk (below_step (by repeat (first | (with_reducible first | exact HB.out | apply below_alloc | apply pw_below_drewN | apply below_drew1) | exact HB.out)) hb); clear HB; have HB := n0_; clear n0_; (try clear hb); (try clear hb2); (try clear hk); (try clear hi)))
            go_ret
            exact ⟨by first | rfl | (simp [errW_none, errW_some] <;> rfl) | (simp [*, errW_none, errW_some] <;> rfl), by repeat (first | (with_reducible first | exact HB.out | apply below_alloc | apply pw_below_drewN | apply below_drew1) | exact HB.out)⟩
        · rw [if_neg c3] at H
          exact absurd H (by simp)
      · rw [if_neg c2] at H
        have c2b0 : decide (x3_1 < (l0.length : Int)) = false := decide_eq_false c2
        clear c2
        obtain rfl := Option.some.inj H
        go_wp2
        go_ret
        exact ⟨by first | rfl | (simp [errW_none, errW_some] <;> rfl) | (simp [*, errW_none, errW_some] <;> rfl), by repeat (first | (with_reducible first | exact HB.out | apply below_alloc | apply pw_below_drewN | apply below_drew1) | exact HB.out)⟩

end Go.Proofs.Yteblpjnkinghoaa.J
/- The contract of the reference's state, for every slice of images. -/
namespace Go.Proofs.Yteblpjnkinghoaa.J
open Go.BigFrame Go.RowKit Go.Proofs.YteblpjnkinghoaaW.PrintWords Go.Proofs.YteblpjnkinghoaaW.PrintLast Go.Proofs.YteblpjnkinghoaaW.PrintMore
theorem toList_length (s : ByteArray) : s.toList.length = s.size := by rw [ByteArray.toList_eq, data_length]
theorem toList_nil_iff (s : ByteArray) : s.toList = [] ↔ s.size = 0 := by
  rw [← toList_length]; exact List.length_eq_zero_iff.symm
/-- The two programs' images are one. -/
theorem rimg (x : S41) : ringworkref25_image.f x.f0 x.f1 x.f2 = some (img x) := by
  unfold img journal_image.f ringworkref25_image.f
  by_cases h0 : x.f0.toList = []
  · rw [if_pos h0, if_neg (by have := (toList_nil_iff _).1 h0; omega)]; rfl
  · rw [if_neg h0, if_pos (by have : x.f0.size ≠ 0 := fun h => h0 ((toList_nil_iff _).2 h); omega)]
    repeat' (first | rfl | split)
theorem wrap_next {k n : Nat} (h : k < n) (hn : n ≤ 9223372036854775807) : wrap64 ((k : Int) + 1) = ((k + 1 : Nat) : Int) := by unfold wrap64; omega
theorem drop_rd41 {l0 : List S41} {k : Nat} (h : k < l0.length) : l0.drop k = rd_T41 l0 (k : Int) :: l0.drop (k + 1) := by
  have : rd_T41 l0 (k : Int) = l0[k] := by unfold rd_T41; rw [Int.toNat_natCast, List.getD_eq_getElem?_getD, List.getElem?_eq_getElem h]; rfl
  rw [this]
  exact List.drop_eq_getElem_cons h
theorem images_from (l : List S41) (hl : l.length ≤ 9223372036854775807) : ∀ (d k : Nat), d = l.length - k → k ≤ l.length → ∀ f, d < f → ringworkref25_images.l0 f l (k : Int) = some ((l.drop k).all img)
  | d, k, hd, hk, 0, h => by omega
  | 0, k, hd, hk, f + 1, h => by
    have : k = l.length := by omega
    subst this
    rw [ringworkref25_images.l0, if_neg (by omega), List.drop_length]; rfl
  | d + 1, k, hd, hk, f + 1, h => by
    have hlt : k < l.length := by omega
    rw [ringworkref25_images.l0, if_pos (by omega), if_pos (by omega), rimg, drop_rd41 hlt, List.all_cons]
    simp only [Option.bind_some]
    cases img (rd_T41 l (k : Int))
    · rfl
    · rw [if_pos rfl, wrap_next hlt hl, images_from l hl d (k + 1) (by omega) (by omega) f (by omega)]; rfl
theorem images_all (l : List S41) (hl : l.length ≤ 9223372036854775807) : ringworkref25_images.f (l.length + 1) l = some (l.all img) := by
  have := images_from l hl l.length 0 (by omega) (by omega) (l.length + 1) (by omega)
  unfold ringworkref25_images.f; simpa using this
/-- Whether the image at an index stands behind the one before it. -/
def hereAt (l : List S41) (k : Nat) : Bool := (rd_T41 l k).f1 && (decide (k = 0) || !(Op.bytesLess (rd_T41 l k).f0.toList (rd_T41 l ((k : Int) - 1)).f0.toList || (rd_T41 l k).f0.toList == (rd_T41 l ((k : Int) - 1)).f0.toList))
def ringworkref25_state.f (l0 : List (S41)) : Option (Bool) := some ((List.range l0.length).all (hereAt l0) && (l0.all img && decide (l0.length ≤ 500)))
theorem here_bad {l : List S41} {k : Nat} {b : Bool} (hk : k < l.length) (h : hereAt l k = false) : ((List.range l.length).all (hereAt l) && b) = false := by
  have : (List.range l.length).all (hereAt l) = false := by
    rw [List.all_eq_false]
    exact ⟨k, List.mem_range.2 hk, by rw [h]; decide⟩
  rw [this]; rfl
theorem here_upto {l : List S41} {k : Nat} (h : (List.range k).all (hereAt l) = true) (hk : hereAt l k = true) : (List.range (k + 1)).all (hereAt l) = true := by
  rw [List.range_succ, List.all_append, h]; simp [hk]
set_option maxHeartbeats 1000000 in
theorem ringworkref25_state.calls (A0 : Option Addr) (c0 : Nat) (l0 : List (S41)) (r : Bool) (w : World) (hr0 : Kd.C k41 w A0 l0.length l0) (hc0 : l0.length ≤ c0) (h : ringworkref25_state.f l0 = some r) :
    Calls Try.prog 51 #[.slice A0 l0.length c0] w fun e w' => e = .returned (.bool r) ∧ Below w.heap.size w w' := by
  have HR0 := Aside0.mk hr0
  have HC0 := Aside0.mk hc0
  have HF := Aside0.mk (Option.some.inj h)
  have hlm : l0.length ≤ 9223372036854775807 := Kd.C_max hr0
  clear hr0 hc0 h
  have hnot : ∀ (x : Bool) (w : World), (Op.unary .not (.bool x)).run Try.prog w = .ok (.bool (!x)) w := fun _ _ => rfl
  go_enter Try.func51, Try.ntmps51
  go_wp2
  go_loopg [3] (l0.length + 1) (fun kq v3 w' => ∃ k : Nat, k ≤ l0.length ∧ v3 = .int .i64 k ∧ Aside0 (kq + k = l0.length + 1) ∧ Aside0 ((List.range k).all (hereAt l0) = true) ∧ Aside0 (Below w.heap.size w w'))
  case atStart => exact ⟨0, Nat.zero_le _, rfl, ⟨by omega⟩, ⟨rfl⟩, ⟨Below.refl _ _⟩⟩
  case round =>
    obtain ⟨k, hk, rfl, HQ, HX, HB⟩ := hrel
    by_cases hlt : k < l0.length
    · obtain ⟨ad, rfl, h0, h1, h2⟩ := at_T41 (Kd.C_below HR0.out HB.out) (k : Int) (by omega) (by omega)
      rw [Int.toNat_natCast] at h0 h1 h2
      obtain ⟨x, hx⟩ : ∃ x, x = rd_T41 l0 (k : Int) := ⟨_, rfl⟩
      rw [← hx] at h0 h1 h2
      have HN := Aside0.mk (show hereAt l0 k = (x.f1 && (decide (k = 0) || !(Op.bytesLess x.f0.toList (rd_T41 l0 ((k : Int) - 1)).f0.toList || x.f0.toList == (rd_T41 l0 ((k : Int) - 1)).f0.toList))) by rw [hx]; rfl)
      clear hx h2
      have q0 := Past.cell h0
      have q1 := Past.cell h1
      go_wp2
      cases hf : x.f1
      · -- nothing there
        have HG := Aside0.mk (show hereAt l0 k = false by rw [HN.out, hf]; rfl)
        rw [hf] at q1
        clear HN hf h0 h1
        refine wp_region_past (by kernel_rfl) (by kernel_rfl) ?_
        repeat (go_big_quiet_step (fail))
        refine wpQuiet_nil ?_
        rintro _ ⟨p, rfl⟩
        go_wp2
        go_ret
        exact ⟨by rw [← HF.out, here_bad hlt HG.out]; rfl, below_step HB.out p.h⟩
      rw [hf] at q1
      by_cases hk0 : k = 0
      · have HG := Aside0.mk (show hereAt l0 k = true by rw [HN.out, hf, decide_eq_true hk0]; rfl)
        have d0 : decide (0 < k) = false := decide_eq_false (by omega)
        clear HN hf h0 h1 hk0
        refine wp_region_past (by kernel_rfl) (by kernel_rfl) ?_
        repeat (go_big_quiet_step (fail))
        refine wpQuiet_nil ?_
        rintro _ ⟨p, rfl⟩
        go_wp2
        go_roundg (gk - 1)
        case measure => have := HQ.out; omega
        case rel => exact ⟨k + 1, by omega, by go_num, ⟨by have := HQ.out; omega⟩, ⟨here_upto HX.out HG.out⟩, ⟨below_step HB.out p.h⟩⟩
      obtain ⟨j, rfl⟩ : ∃ j, k = j + 1 := ⟨k - 1, by omega⟩
      obtain ⟨ad', e', g0, g1, g2⟩ := at_T41 (Kd.C_below HR0.out HB.out) (j : Int) (by omega) (by omega)
      cases e'
      rw [Int.toNat_natCast] at g0 g1 g2
      clear g1 g2
      have g := Past.cell g0
      clear g0
      have ej : ((j + 1 : Nat) : Int) - 1 = j := by omega
      rw [ej] at HN
      cases hlss : (Op.bytesLess x.f0.toList (rd_T41 l0 (j : Int)).f0.toList || x.f0.toList == (rd_T41 l0 (j : Int)).f0.toList)
      · have HG := Aside0.mk (show hereAt l0 (j + 1) = true by rw [HN.out, hf, hlss]; simp)
        clear HN hf ej h0 h1
        refine wp_region_past (by kernel_rfl) (by kernel_rfl) ?_
        repeat (go_big_quiet_step (fail))
        refine wpQuiet_nil ?_
        rintro _ ⟨p, rfl⟩
        go_wp2
        go_roundg (gk - 1)
        case measure => have := HQ.out; omega
        case rel => exact ⟨j + 1 + 1, by omega, by go_num, ⟨by have := HQ.out; omega⟩, ⟨here_upto HX.out HG.out⟩, ⟨below_step HB.out p.h⟩⟩
      · have HG := Aside0.mk (show hereAt l0 (j + 1) = false by rw [HN.out, hf, hlss]; rfl)
        clear HN hf ej h0 h1
        refine wp_region_past (by kernel_rfl) (by kernel_rfl) ?_
        repeat (go_big_quiet_step (fail))
        refine wpQuiet_nil ?_
        rintro _ ⟨p, rfl⟩
        go_wp2
        go_ret
        exact ⟨by rw [← HF.out, here_bad hlt HG.out]; rfl, below_step HB.out p.h⟩
    · have hke : k = l0.length := by omega
      subst hke
      have HI := Aside0.mk (images_all l0 hlm)
      cases hi : l0.all img
      · rw [hi] at HI
        have HE := Aside0.mk (show false = r by rw [← HF.out, hi, Bool.false_and, Bool.and_false])
        clear hi
        go_wp2_with (go_at_call 52; refine (ringworkref25_images.calls _ _ _ _ _ _ (Kd.C_below HR0.out HB.out) HC0.out HI.out).mono ?_; rintro e w1 ⟨rfl, hb⟩)
        go_ret
        exact ⟨by rw [← HE.out]; rfl, below_step HB.out hb⟩
      · rw [hi] at HI
        have HE := Aside0.mk (show decide ((l0.length : Int) ≤ 500) = r by rw [← HF.out, hi, HX.out, Bool.true_and, Bool.true_and]; exact decide_eq_decide.2 (by omega))
        clear hi
        go_wp2_with (go_at_call 52; refine (ringworkref25_images.calls _ _ _ _ _ _ (Kd.C_below HR0.out HB.out) HC0.out HI.out).mono ?_; rintro e w1 ⟨rfl, hb⟩)
        go_ret
        exact ⟨by rw [← HE.out]; rfl, below_step HB.out hb⟩
end Go.Proofs.Yteblpjnkinghoaa.J
/- The reference's Valid, notes and Wrong are the program's. -/
namespace Go.Proofs.Yteblpjnkinghoaa.J
open Go.RowKit Go.Proofs.YteblpjnkinghoaaW.PrintWords
theorem ref_Valid (n : S39) : Ev (fun k => ringworkref25_Valid.f k n.f0 n.f1 n.f2 n.f3 n.f4) (vld n) := by
  have hs : ∀ s : ByteArray, (¬ (s.size : Int) ≥ 1) ↔ s.toList = [] := fun s => by
    rw [toList_nil_iff]; omega
  have hnil : ∀ s : ByteArray, (s.toList = []) = (s.size = 0) := fun s => propext (toList_nil_iff s)
  have hnb : ∀ s : ByteArray, (s.toList == ([] : List UInt8)) = decide (s.size = 0) := fun s => by
    rw [Bool.eq_iff_iff]; simp [hnil]
  obtain ⟨f0, f1, f2, f3, f4⟩ := n
  unfold vld journal_Valid.f
  simp only
  unfold ringworkref25_Valid.f
  have plain : ∀ b : Bool, b = false → (f0 = 1 ∨ f0 = 4 ∨ f0 = 5 ∨ f0 = 7) → Ev (fun k => ringworkref25_Valid.j0 k f0 b f0 f1 f2 f3 f4) ((journal_plain.f f0 f1 f2 f3 f4).getD false) := fun b hb hf => by
    subst hb
    refine Ev.step (body := fun _ => some ((journal_plain.f f0 f1 f2 f3 f4).getD false)) (fun k => ?_) (Ev.val _)
    rw [ringworkref25_Valid.j0, if_neg (by decide)]
    unfold journal_plain.f journal_unit.f
    rcases hf with rfl | rfl | rfl | rfl <;> by_cases a1 : 1 ≤ f1 <;> by_cases a2 : f1 ≤ 1000 <;> by_cases a3 : f2.toList = [] <;> cases f3 <;> simp [a1, a2, a3]
  have imaged : Ev (fun k => ringworkref25_Valid.j0 k f0 true f0 f1 f2 f3 f4) ((journal_imaged.f f0 f1 f2 f3 f4).getD false) := by
    refine Ev.step (body := fun _ => some ((journal_imaged.f f0 f1 f2 f3 f4).getD false)) (fun k => ?_) (Ev.val _)
    rw [ringworkref25_Valid.j0, if_pos rfl, show ringworkref25_image.f f2 f3 f4 = some (img ⟨f2, f3, f4⟩) from rimg ⟨f2, f3, f4⟩]
    unfold img journal_image.f journal_imaged.f journal_unit.f
    simp only
    by_cases a1 : 1 ≤ f1 <;> by_cases a2 : f1 ≤ 1000 <;> by_cases a3 : f2.toList = [] <;> by_cases a4 : (f2.size : Int) ≤ 40 <;> by_cases a5 : (f4.size : Int) ≤ 4000 <;> cases f3 <;> simp [a1, a2, a3, a4, a5]
  by_cases h6 : f0 = 6
  · subst h6
    refine Ev.of fun k => ?_
    rw [if_pos rfl, if_neg (show ¬ (6 : Int) < 1 by omega), if_neg (show ¬ (7 : Int) < 6 by omega), if_neg (show ¬ ((6 : Int) = 2 ∨ (6 : Int) = 3) by omega), if_pos rfl]
    unfold journal_named.f
    by_cases a1 : f1 = 0
    · rw [if_pos a1, if_pos a1]
      by_cases a2 : f2.toList = []
      · rw [if_pos a2, if_pos a2]
        cases f3
        · rw [if_neg (show ¬ (false = true) by decide), if_neg (show ¬ (false = true) by decide)]
          by_cases a3 : f4.toList = []
          · rw [if_neg ((hs f4).2 a3), if_pos a3]; rfl
          · rw [if_pos (Classical.not_not.1 (fun h => a3 ((hs f4).1 h))), if_neg a3]; rfl
        · rfl
      · rw [if_neg a2, if_neg a2]; rfl
    · rw [if_neg a1, if_neg a1]; rfl
  · simp only [if_neg h6]
    by_cases h2 : f0 = 2
    · subst h2
      simpa using imaged
    · simp only [if_neg h2]
      by_cases h3 : f0 = 3
      · subst h3
        simpa using imaged
      · by_cases hr : f0 = 1 ∨ f0 = 4 ∨ f0 = 5 ∨ f0 = 7
        · rw [if_neg (by omega), if_neg (by omega), if_neg (by omega)]
          exact plain _ (beq_eq_false_iff_ne.2 h3) hr
        · rw [show (if f0 < 1 then some false else if 7 < f0 then some false else if f0 = 2 ∨ f0 = 3 then journal_imaged.f f0 f1 f2 f3 f4 else journal_plain.f f0 f1 f2 f3 f4).getD false = false by
            by_cases hz : f0 < 1
            · rw [if_pos hz]; rfl
            · rw [if_neg hz, if_pos (by omega)]; rfl]
          refine Ev.step (body := fun _ => some false) (fun k => ?_) (Ev.val _)
          rw [ringworkref25_Valid.j0, if_neg (by simpa using h3), if_neg (by omega), if_neg (by omega), if_neg (by omega), if_neg (by omega)]
theorem ref_notes_from (l : List S39) (hl : l.length ≤ 9223372036854775807) : ∀ (d i : Nat), d = l.length - i → i ≤ l.length → Ev (fun k => ringworkref25_notes.l0 k l (i : Int)) ((l.drop i).all vld && decide (l.length ≤ 1000))
  | 0, i, hd, hi => by
    have : i = l.length := by omega
    subst this
    rw [List.drop_length]
    exact Ev.step (fun k => by rw [ringworkref25_notes.l0, if_neg (by omega)]) (Ev.of fun k => by simp; omega)
  | d + 1, i, hd, hi => by
    have hlt : i < l.length := by omega
    refine Ev.step (fun k => by rw [ringworkref25_notes.l0, if_pos (by omega), if_pos (by omega)]) ?_
    rw [drop_rd hlt, List.all_cons]
    refine Ev.bind (ref_Valid _) ?_
    cases vld (rd_T39 l (i : Int))
    · exact Ev.val _
    · simp only [if_true, Bool.true_and]
      rw [wrap_next' hlt hl]
      exact ref_notes_from l hl d (i + 1) (by omega) (by omega)
theorem ref_notes (l : List S39) (hl : l.length ≤ 9223372036854775807) : Ev (fun k => ringworkref25_notes.f k l) (decide (l.length ≤ 1000) && l.all vld) := by
  have := ref_notes_from l hl l.length 0 (by omega) (by omega)
  rw [List.drop_zero, Bool.and_comm] at this
  exact this
/-- Whether another unit has a key. -/
def dupV (p : List S39) (n : S39) : Bool := p.any fun m => decide (m.f1 ≠ n.f1 ∧ m.f0 ≠ 6) && touchedV p m.f1 n.f2 0
/-- What is wrong with a note behind others. -/
def wrongR (p : List S39) (n : S39) : Int :=
  if n.f0 = 6 then 0 else if (sinceV p n.f1).2 = decide (n.f0 = 1) then 9
  else if ¬ (n.f0 = 2 ∨ n.f0 = 3) then 0
  else if n.f0 = 3 ∧ touchedV p n.f1 n.f2 2 = false then 8
  else if dupV p n = true then 6 else 0
theorem ref_dup_from (l : List S39) (n : Nat) (a0 a1 : Int) (a2 : ByteArray) (a3 : Bool) (a4 : ByteArray) (hn : n ≤ l.length) (hl : l.length ≤ 9223372036854775807) : ∀ (d i : Nat), d = n - i → i ≤ n →
    Ev (fun k => ringworkref25_wrong.l0 k l (n : Int) (i : Int) a0 a1 a2 a3 a4) (if ((l.take n).drop i).any (fun m => decide (m.f1 ≠ a1 ∧ m.f0 ≠ 6) && touchedV (l.take n) m.f1 a2 0) = true then 6 else 0)
  | 0, i, hd, hi => by
    have : i = n := by omega
    subst this
    rw [List.drop_eq_nil_of_le (by rw [List.length_take]; omega)]
    exact Ev.step (fun k => by rw [ringworkref25_wrong.l0, if_neg (by omega)]; rfl) (Ev.val _)
  | d + 1, i, hd, hi => by
    have hlt : i < n := by omega
    have next := ref_dup_from l n a0 a1 a2 a3 a4 hn hl d (i + 1) (by omega) (by omega)
    rw [← wrap_next' (show i < l.length by omega) hl] at next
    rw [rd_take hlt hn, List.any_cons]
    refine Ev.step (fun k => by rw [ringworkref25_wrong.l0, if_pos (by omega), if_pos (by omega), if_pos (by omega)]) ?_
    generalize rd_T39 l (i : Int) = x
    by_cases h1 : x.f1 = a1
    · simp only [if_pos h1]
      rw [show decide (x.f1 ≠ a1 ∧ x.f0 ≠ 6) = false from decide_eq_false (fun h => h.1 h1), Bool.false_and, Bool.false_or]
      exact next
    · simp only [if_neg h1]
      by_cases h6 : x.f0 = 6
      · simp only [if_pos h6]
        rw [show decide (x.f1 ≠ a1 ∧ x.f0 ≠ 6) = false from decide_eq_false (fun h => h.2 h6), Bool.false_and, Bool.false_or]
        exact next
      · simp only [if_neg h6]
        rw [show decide (x.f1 ≠ a1 ∧ x.f0 ≠ 6) = true from decide_eq_true ⟨h1, h6⟩, Bool.true_and]
        refine Ev.bind (ref_touched l n x.f1 a2 0 hn hl) ?_
        cases touchedV (l.take n) x.f1 a2 0
        · rw [Bool.false_or]; exact next
        · exact Ev.val _
theorem ref_wrong (l : List S39) (i : Nat) (hi : i < l.length) (hl : l.length ≤ 9223372036854775807) : Ev (fun k => ringworkref25_wrong.f k l (i : Int)) (wrongR (l.take i) (rd_T39 l (i : Int))) := by
  unfold ringworkref25_wrong.f
  simp only [if_pos (show (0 : Int) ≤ (i : Int) by omega), if_pos (show (i : Int) < (l.length : Int) by omega)]
  generalize rd_T39 l (i : Int) = n
  refine Ev.bind (ref_since l i n.f1 (by omega) hl) ?_
  have hon : decide (atI (sinceV (l.take i) n.f1) ≥ 0) = (sinceV (l.take i) n.f1).2 := by
    unfold atI
    cases hs : (sinceV (l.take i) n.f1).2
    · rfl
    · have := since_in hs
      simp; exact this.1
  rw [hon]
  unfold wrongR
  by_cases h6 : n.f0 = 6
  · simp only [if_pos h6]; exact Ev.val _
  simp only [if_neg h6]
  have hb : (((sinceV (l.take i) n.f1).2 == (n.f0 == 1)) = true) = ((sinceV (l.take i) n.f1).2 = decide (n.f0 = 1)) := by
    rw [beq_iff_eq]
    have : (n.f0 == 1) = decide (n.f0 = 1) := by rw [Bool.eq_iff_iff]; simp
    rw [this]
  simp only [hb]
  by_cases h9 : (sinceV (l.take i) n.f1).2 = decide (n.f0 = 1)
  · simp only [if_pos h9]; exact Ev.val _
  simp only [if_neg h9]
  have hdup := ref_dup_from l i n.f0 n.f1 n.f2 n.f3 n.f4 (by omega) hl i 0 (by omega) (by omega)
  rw [List.drop_zero] at hdup
  have hd : Ev (fun k => ringworkref25_wrong.j1 k l (i : Int) n.f0 n.f1 n.f2 n.f3 n.f4) (if dupV (l.take i) n = true then 6 else 0) := Ev.step (fun k => by rw [ringworkref25_wrong.j1]; rfl) hdup
  by_cases h2 : n.f0 = 2
  · simp only [if_pos h2]
    rw [if_neg (show ¬ ¬ (n.f0 = 2 ∨ n.f0 = 3) from fun h => h (.inl h2)), if_neg (show ¬ (n.f0 = 3 ∧ _) from fun h => by have := h.1; omega)]
    exact Ev.step (fun k => by rw [ringworkref25_wrong.j0, if_neg (by decide), if_neg (by omega)]) hd
  · simp only [if_neg h2]
    by_cases h3 : n.f0 = 3
    · rw [if_neg (show ¬ ¬ (n.f0 = 2 ∨ n.f0 = 3) from fun h => h (.inr h3))]
      refine Ev.step (fun k => by rw [ringworkref25_wrong.j0, if_neg (by rw [h3]; decide), if_pos h3]) ?_
      refine Ev.bind (ref_touched l i n.f1 n.f2 2 (by omega) hl) ?_
      cases ht : touchedV (l.take i) n.f1 n.f2 2
      · rw [if_pos ⟨h3, rfl⟩]; exact Ev.val _
      · rw [if_neg (fun h => by cases h.2)]
        exact hd
    · rw [if_pos (show ¬ (n.f0 = 2 ∨ n.f0 = 3) from fun h => by omega)]
      exact Ev.step (fun k => by rw [ringworkref25_wrong.j0, if_pos (by simpa using h3)]) (Ev.val _)
/-- What Wrong keeps tells of the notes so far. -/
structure WInv (p : List S39) (st : WSt) : Prop where
  on : ∀ u, (st.on u).isSome = (sinceV p u).2
  keys : ∀ u K, st.on u = some K → ∀ key, K key = touchedV p u key 2 ∧ K key = touchedV p u key 0
  tk : ∀ key o, st.tk key = some o ↔ touchedV p o key 0 = true
theorem touched_on {p : List S39} {u : Int} {key : ByteArray} {kind : Int} (h : touchedV p u key kind = true) : (sinceV p u).2 = true := by
  unfold touchedV at h; rw [Bool.and_eq_true] at h; exact h.1
theorem winv_nil : WInv [] ⟨fun _ => none, fun _ => none⟩ where
  on _ := rfl
  keys _ _ h := by cases h
  tk _ _ := ⟨fun h => (by cases h), fun h => (by have := touched_on h; cases this)⟩
theorem dup_tk {p : List S39} {st : WSt} (h : WInv p st) (n : S39) : dupV p n = (st.tk n.f2).any (· ≠ n.f1) := by
  rw [Bool.eq_iff_iff]
  unfold dupV
  constructor
  · intro hd
    obtain ⟨m, hm, hc⟩ := List.any_eq_true.1 hd
    rw [Bool.and_eq_true, decide_eq_true_eq] at hc
    rw [(h.tk n.f2 m.f1).2 hc.2]
    simpa using hc.1.1
  · intro ha
    cases ht : st.tk n.f2 with
    | none => rw [ht] at ha; cases ha
    | some o =>
      rw [ht] at ha
      have ho : o ≠ n.f1 := by simpa using ha
      have htt := (h.tk n.f2 o).1 ht
      have htt' := htt
      unfold touchedV at htt'
      rw [Bool.and_eq_true] at htt'
      obtain ⟨m, hm, hc⟩ := List.any_eq_true.1 htt'.2
      have hc' := of_decide_eq_true hc
      exact List.any_eq_true.2 ⟨m, List.mem_of_mem_drop hm, by rw [hc'.1, htt, decide_eq_true ⟨ho, by omega⟩]; rfl⟩
theorem since_snoc_other {p : List S39} {n : S39} {u : Int} (h : n.f1 ≠ u) : sinceV (p ++ [n]) u = sinceV p u := by
  rw [since_snoc]; unfold sinceStep; rw [if_neg h]
theorem touched_snoc_other {p : List S39} {n : S39} {u : Int} (h : n.f1 ≠ u) (key : ByteArray) (kind : Int) : touchedV (p ++ [n]) u key kind = touchedV p u key kind := by
  rw [touched_snoc, if_neg (fun hh => h hh.1), show tcond u key kind n = false from decide_eq_false (fun hh => h hh.1), Bool.and_false, Bool.or_false]
theorem wrong_step {p : List S39} {st : WSt} (h : WInv p st) (n : S39) : (wrongR p n ≠ 0 ∧ wrongStep st n = .inl (wrongR p n)) ∨ (wrongR p n = 0 ∧ ∃ st', wrongStep st n = .inr st' ∧ WInv (p ++ [n]) st') := by
  unfold wrongR
  by_cases h6 : n.f0 = 6
  · right
    rw [if_pos h6, wrongStep_6 h6]
    have e1 : ∀ u, sinceV (p ++ [n]) u = sinceV p u := fun u => by rw [since_snoc]; unfold sinceStep; split <;> simp [h6]
    have e2 : ∀ u key kind, touchedV (p ++ [n]) u key kind = touchedV p u key kind := fun u key kind => by
      rw [touched_snoc, if_neg (fun hh => hh.2.1 h6), show tcond u key kind n = false from decide_eq_false (fun hh => by have := hh.2.2.1; omega), Bool.and_false, Bool.or_false]
    exact ⟨rfl, st, rfl, ⟨fun u => by rw [e1]; exact h.on u, fun u K hu key => by rw [e2, e2]; exact h.keys u K hu key, fun key o => by rw [e2]; exact h.tk key o⟩⟩
  rw [if_neg h6]
  by_cases h9 : (sinceV p n.f1).2 = decide (n.f0 = 1)
  · left
    rw [if_pos h9, wrongStep_9 h6 ((h.on n.f1).trans h9)]
    exact ⟨by decide, rfl⟩
  rw [if_neg h9]
  by_cases h1 : n.f0 = 1
  · right
    have hoff : (sinceV p n.f1).2 = false := by cases hs : (sinceV p n.f1).2 <;> simp_all
    have hnone : st.on n.f1 = none := by
      cases hs : st.on n.f1 with
      | none => rfl
      | some K => have := h.on n.f1; rw [hs, hoff] at this; cases this
    rw [if_pos (show ¬ (n.f0 = 2 ∨ n.f0 = 3) by omega), wrongStep_1 h1 hnone]
    refine ⟨rfl, _, rfl, ⟨fun u => ?_, fun u K hu key => ?_, fun key o => ?_⟩⟩
    · unfold WSt.set
      by_cases hu : u = n.f1
      · subst hu; simp only [if_true]; rw [since_snoc]; unfold sinceStep; rw [if_pos rfl, if_neg h6, if_pos (.inl h1)]; rfl
      · simp only [if_neg hu]; rw [since_snoc_other (Ne.symm hu)]; exact h.on u
    · unfold WSt.set at hu
      by_cases hx : u = n.f1
      · subst hx
        simp only [if_true] at hu
        cases hu
        have htn : ∀ kind, touchedV (p ++ [n]) n.f1 key kind = false := fun kind => by rw [touched_snoc, if_pos ⟨rfl, h6, .inl h1⟩]
        rw [htn, htn]
        exact ⟨rfl, rfl⟩
      · simp only [if_neg hx] at hu
        rw [touched_snoc_other (Ne.symm hx), touched_snoc_other (Ne.symm hx)]
        exact h.keys u K hu key
    · by_cases hx : o = n.f1
      · subst hx
        rw [touched_snoc, if_pos ⟨rfl, h6, .inl h1⟩]
        constructor
        · intro ht
          have := touched_on ((h.tk key n.f1).1 ht)
          rw [hoff] at this; cases this
        · intro ht; cases ht
      · rw [touched_snoc_other (Ne.symm hx)]; exact h.tk key o
  have hon : (sinceV p n.f1).2 = true := by
    cases hs : (sinceV p n.f1).2
    · rw [hs] at h9; exact absurd (decide_eq_false h1).symm h9
    · rfl
  obtain ⟨K, hK⟩ : ∃ K, st.on n.f1 = some K := Option.isSome_iff_exists.1 ((h.on n.f1).trans hon)
  by_cases h23 : n.f0 = 2 ∨ n.f0 = 3
  · rw [if_neg (show ¬ ¬ (n.f0 = 2 ∨ n.f0 = 3) from fun hh => hh h23)]
    have hk2 := (h.keys n.f1 K hK n.f2).1
    by_cases h8 : n.f0 = 3 ∧ touchedV p n.f1 n.f2 2 = false
    · left
      rw [if_pos h8, wrongStep_8 h8.1 hK (hk2.trans h8.2)]
      exact ⟨by decide, rfl⟩
    have hkk0 : n.f0 = 3 ∧ K n.f2 = true ∨ n.f0 = 2 := by
      rcases h23 with h2 | h3
      · exact .inr h2
      · refine .inl ⟨h3, ?_⟩
        cases hz : K n.f2
        · exact absurd ⟨h3, hk2.symm.trans hz⟩ h8
        · rfl
    rw [if_neg h8, dup_tk h n]
    by_cases hd : (st.tk n.f2).any (· ≠ n.f1) = true
    · left
      cases ht : st.tk n.f2 with
      | none => rw [ht] at hd; cases hd
      | some o =>
        rw [ht] at hd
        rw [if_pos hd, wrongStep_d hkk0 hK ht (by simpa using hd)]
        exact ⟨by decide, rfl⟩
    right
    have ht : st.tk n.f2 = none ∨ st.tk n.f2 = some n.f1 := by
      cases ht : st.tk n.f2 with
      | none => exact .inl rfl
      | some o =>
        rw [ht] at hd
        by_cases ho : o = n.f1
        · exact .inr (by rw [ho])
        · exact absurd (by simpa using ho) hd
    rw [if_neg hd, wrongStep_k hkk0 hK ht]
    have hsn : sinceV (p ++ [n]) n.f1 = sinceV p n.f1 := by rw [since_snoc]; unfold sinceStep; rw [if_pos rfl, if_neg h6, if_neg (by omega), if_neg (by omega)]
    have htn : ∀ key kind, touchedV (p ++ [n]) n.f1 key kind = (touchedV p n.f1 key kind || tcond n.f1 key kind n) := fun key kind => by
      rw [touched_snoc, if_neg (fun hh => by omega), hon, Bool.true_and]
    refine ⟨rfl, _, rfl, ⟨fun u => ?_, fun u L hu key => ?_, fun key o => ?_⟩⟩
    · by_cases hu : u = n.f1
      · subst hu; simp only [if_true]; rw [hsn, hon]; rfl
      · simp only [if_neg hu]; rw [since_snoc_other (Ne.symm hu)]; exact h.on u
    · by_cases hx : u = n.f1
      · subst hx
        simp only [if_true] at hu
        cases hu
        rw [htn, htn]
        have hkk := h.keys n.f1 K hK key
        by_cases he : key = n.f2
        · subst he
          simp only [if_true]
          rw [show tcond n.f1 n.f2 0 n = true from decide_eq_true ⟨rfl, rfl, h23, .inl rfl⟩, Bool.or_true]
          refine ⟨?_, rfl⟩
          rcases h23 with h2 | h3
          · rw [show tcond n.f1 n.f2 2 n = true from decide_eq_true ⟨rfl, rfl, .inl h2, .inr h2⟩, Bool.or_true]
          · cases htt : touchedV p n.f1 n.f2 2
            · exact absurd ⟨h3, htt⟩ h8
            · rfl
        · simp only [if_neg he]
          rw [show tcond n.f1 key 2 n = false from decide_eq_false (fun hh => he hh.2.1.symm), show tcond n.f1 key 0 n = false from decide_eq_false (fun hh => he hh.2.1.symm), Bool.or_false, Bool.or_false]
          exact hkk
      · simp only [if_neg hx] at hu
        rw [touched_snoc_other (Ne.symm hx), touched_snoc_other (Ne.symm hx)]
        exact h.keys u L hu key
    · by_cases he : key = n.f2
      · subst he
        simp only [if_true]
        by_cases hx : o = n.f1
        · subst hx
          rw [htn, show tcond n.f1 n.f2 0 n = true from decide_eq_true ⟨rfl, rfl, h23, .inl rfl⟩, Bool.or_true]
          simp
        · rw [touched_snoc_other (Ne.symm hx)]
          constructor
          · intro ht; exact absurd (Option.some.inj ht).symm hx
          · intro ht
            have := (h.tk n.f2 o).2 ht
            rw [this] at hd
            exact absurd (by simpa using hx) hd
      · simp only [if_neg he]
        by_cases hx : o = n.f1
        · subst hx
          rw [htn, show tcond n.f1 key 0 n = false from decide_eq_false (fun hh => he hh.2.1.symm), Bool.or_false]
          exact h.tk key n.f1
        · rw [touched_snoc_other (Ne.symm hx)]; exact h.tk key o
  · rw [if_pos h23]
    right
    refine ⟨rfl, ?_⟩
    by_cases hq : n.f0 = 4 ∨ n.f0 = 5 ∨ n.f0 = 7
    · rw [wrongStep_q hq hK]
      have htn : ∀ key kind, touchedV (p ++ [n]) n.f1 key kind = false := fun key kind => by
        rw [touched_snoc, if_pos ⟨rfl, h6, by omega⟩]
      refine ⟨_, rfl, ⟨fun u => ?_, fun u L hu key => ?_, fun key o => ?_⟩⟩
      · by_cases hu : u = n.f1
        · subst hu
          simp only [if_true]
          rw [since_snoc]
          unfold sinceStep
          rw [if_pos rfl, if_neg h6]
          by_cases h4 : n.f0 = 4
          · rw [if_pos h4, if_pos (.inr h4)]; rfl
          · rw [if_neg h4, if_neg (by omega), if_pos (by omega)]; rfl
        · simp only [if_neg hu]; rw [since_snoc_other (Ne.symm hu)]; exact h.on u
      · by_cases hx : u = n.f1
        · subst hx
          simp only [if_true] at hu
          rw [htn, htn]
          by_cases h4 : n.f0 = 4
          · rw [if_pos h4] at hu; cases hu; exact ⟨rfl, rfl⟩
          · rw [if_neg h4] at hu; cases hu
        · simp only [if_neg hx] at hu
          rw [touched_snoc_other (Ne.symm hx), touched_snoc_other (Ne.symm hx)]
          exact h.keys u L hu key
      · have hkk := (h.keys n.f1 K hK key).2
        by_cases hx : o = n.f1
        · subst hx
          rw [htn]
          constructor
          · intro ht
            by_cases hKk : K key = true
            · simp only [if_pos hKk] at ht; cases ht
            · simp only [if_neg hKk] at ht
              rw [hkk] at hKk
              exact absurd ((h.tk key n.f1).1 ht) hKk
          · intro ht; cases ht
        · rw [touched_snoc_other (Ne.symm hx)]
          by_cases hKk : K key = true
          · simp only [if_pos hKk]
            constructor
            · intro ht; cases ht
            · intro ht
              have h1 := (h.tk key o).2 ht
              have h2 := (h.tk key n.f1).2 (hkk.symm.trans hKk)
              rw [h1] at h2
              exact absurd (Option.some.inj h2) hx
          · simp only [if_neg hKk]; exact h.tk key o
    · rw [wrongStep_x h1 (by omega) (by omega) (by omega) (by omega) (by omega) hK]
      have e1 : ∀ u, sinceV (p ++ [n]) u = sinceV p u := fun u => by
        rw [since_snoc]; unfold sinceStep
        split
        · rw [if_neg (by omega), if_neg (by omega)]
        · rfl
      have e2 : ∀ u key kind, touchedV (p ++ [n]) u key kind = touchedV p u key kind := fun u key kind => by
        rw [touched_snoc, if_neg (fun hh => by omega), show tcond u key kind n = false from decide_eq_false (fun hh => h23 hh.2.2.1), Bool.and_false, Bool.or_false]
      exact ⟨st, rfl, ⟨fun u => by rw [e1]; exact h.on u, fun u K hu key => by rw [e2, e2]; exact h.keys u K hu key, fun key o => by rw [e2]; exact h.tk key o⟩⟩
theorem ref_Wrong_from (l : List S39) (hl : l.length ≤ 9223372036854775807) : ∀ (d i : Nat), d = l.length - i → i ≤ l.length → ∀ st, WInv (l.take i) st →
    Ev (fun k => ringworkref25_Wrong.l0 k l (i : Int)) (wrongFrom (l.drop i) i st)
  | 0, i, hd, hi, st, _ => by
    have : i = l.length := by omega
    subst this
    rw [List.drop_length]
    exact Ev.step (fun k => by rw [ringworkref25_Wrong.l0, if_neg (by omega)]; rfl) (Ev.val _)
  | d + 1, i, hd, hi, st, hI => by
    have hlt : i < l.length := by omega
    rw [drop_rd hlt, wrongFrom]
    refine Ev.step (fun k => by rw [ringworkref25_Wrong.l0, if_pos (by omega)]) ?_
    refine Ev.bind (ref_wrong l i hlt hl) ?_
    have hsn : l.take (i + 1) = l.take i ++ [rd_T39 l (i : Int)] := by
      have e : rd_T39 l (i : Int) = l[i] := by unfold rd_T39; rw [Int.toNat_natCast, List.getD_eq_getElem?_getD, List.getElem?_eq_getElem hlt]; rfl
      rw [e, List.take_succ_eq_append_getElem hlt]
    rcases wrong_step hI (rd_T39 l (i : Int)) with ⟨h0, hs⟩ | ⟨h0, st', hs, hI'⟩
    · rw [hs]
      simp only [if_neg h0]
      exact Ev.val _
    · rw [hs]
      simp only [if_pos h0]
      rw [wrap_next' hlt hl]
      exact ref_Wrong_from l hl d (i + 1) (by omega) (by omega) st' (by rw [hsn]; exact hI')
/-- The reference's Wrong is the program's. -/
theorem ref_Wrong (l : List S39) (hl : l.length ≤ 9223372036854775807) : ∃ r, journal_Wrong.f l = some r ∧ Ev (fun k => ringworkref25_Wrong.f k l) r := by
  unfold journal_Wrong.f ringworkref25_Wrong.f
  by_cases hv : l.length ≤ 1000 ∧ l.all vld = true
  · rw [if_pos hv]
    refine ⟨_, rfl, Ev.bind (ref_notes l hl) ?_⟩
    rw [decide_eq_true hv.1, hv.2]
    exact ref_Wrong_from l hl l.length 0 (by omega) (by omega) _ winv_nil
  · rw [if_neg hv]
    refine ⟨_, rfl, Ev.bind (ref_notes l hl) ?_⟩
    have : (decide (l.length ≤ 1000) && l.all vld) = false := by
      rw [Bool.eq_false_iff]; intro h; rw [Bool.and_eq_true, decide_eq_true_eq] at h; exact hv h
    rw [this]
    exact Ev.val _
end Go.Proofs.Yteblpjnkinghoaa.J
/- slices.Reverse of images: the printed function and its contract, one step of the printed proof mended (two images of one row: their cells are apart). -/
namespace Go.Proofs.Yteblpjnkinghoaa.J
open Go.RowKit Go.Proofs.YteblpjnkinghoaaW.PrintWords Go.Proofs.YteblpjnkinghoaaW.PrintLast Go.Proofs.YteblpjnkinghoaaW.PrintMore
attribute [local go_sem] max2_int min2_int max_two min_two max_three min_three max_four min_four
/-! ### api_Image: function 38 -/
def api_Image.l0 : Nat → List (S41) → Int → Int → Option ((List (S41)))
  | 0, _, _, _ => none
  | k + 1, x0, x2, x3 => if x2 < x3 then (if 0 ≤ x3 then (if x3 < (x0.length : Int) then (if 0 ≤ x2 then (if x2 < (x0.length : Int) then (api_Image.l0 k ((x0.set (x2 : Int).toNat (⟨(rd_T41 x0 x3).f0, (rd_T41 x0 x3).f1, (rd_T41 x0 x3).f2⟩ : S41)).set (x3 : Int).toNat (⟨(rd_T41 x0 x2).f0, (rd_T41 x0 x2).f1, (rd_T41 x0 x2).f2⟩ : S41)) (wrap64 (x2 + 1)) (wrap64 (x3 - 1))) else (none)) else (none)) else (none)) else (none)) else (some x0)
def api_Image.f (k : Nat) (l0 : List (S41)) : Option ((List (S41))) := api_Image.l0 k l0 0 (wrap64 ((l0.length : Int) - 1))
def api_Image.T3 : Bool × List (List Nat × List Nat) := (true, [([], []), ([], []), ([], []), ([], []), ([], []), ([], []), ([4, 5], [4, 5]), ([6], [6]), ([], []), ([], []), ([8, 9], [8, 9]), ([10], [10]), ([0, 1, 0, 1, 4, 5, 6, 7, 11], [0, 1]), ([12, 7, 0, 1, 4, 5, 6, 7, 11], [7, 12]), ([2, 3, 0, 1, 2, 3, 4, 5, 6, 7, 8, 9, 10, 11, 12, 13], [2, 3]), ([14, 11, 13, 0, 1, 2, 3, 4, 5, 6, 7, 8, 9, 10, 11, 12, 13], [11, 14])])
def api_Image.B3 : List Nat := [0, 0, 0, 0, 0, 0, 48, 112, 0, 0, 768, 1792, 4083, 8179, 16383, 32767]
theorem api_Image.tab3 : rtab .any (opsOf Try.f38 3) = api_Image.T3 := by kernel_rfl
theorem api_Image.bits3 : waitsOk api_Image.T3.2 api_Image.B3 = true := by kernel_rfl
set_option maxHeartbeats 8000000 in
set_option maxRecDepth 100000 in
theorem api_Image.calls (k : Nat) (P0_ : Nat → Prop) (u9000_ : Value) (l0 : List (S41)) (r : List (S41)) (w0 w : World) (hB : Below w0.heap.size w0 w) (ho0 : Kd.R k41 41 w w0.heap.size P0_ u9000_ l0) (h : api_Image.f k l0 = some r) :
    Calls Try.prog 38 #[u9000_] w fun e w' => e = .returned (.tuple #[]) ∧ Kd.R k41 41 w' w0.heap.size (fun k_ => (P0_ k_ ∨ w.heap.size ≤ k_)) u9000_ r ∧ Below w0.heap.size w0 w' ∧ Kept w w' (fun k_ => P0_ k_) := by
  have hu41 := Try.underlying41
  have HO0 := Aside0.mk (show Kd.R k41 41 w w0.heap.size (fun k_ => (P0_ k_ ∨ w.heap.size ≤ k_)) u9000_ l0 from Kd.R_mono ho0 (fun k_ hk => (.inl hk)))
  have HK := Aside0.mk (Kept.refl w (fun k_ => P0_ k_))
  have HW0 := Aside0.mk hB.size
  have HB := Aside0.mk hB
  clear hB
  have H : (api_Image.l0 k l0 0 (wrap64 ((l0.length : Int) - 1))) = some r := h
  clear h
  have H' := Aside0.mk H
  clear H
  obtain ⟨Ao2, co2, eo2⟩ := Kd.R_slice HO0.out
  subst eo2
  go_enter Try.func38, Try.ntmps38
  go_wp2
  go_loopg [2, 3] k (fun kq v2 v3 w' => ∃ (x0_1 : List (S41)) (x2_1 : Int) (x3_1 : Int), v2 = .int .i64 x2_1 ∧ v3 = .int .i64 x3_1 ∧ Aside0 (api_Image.l0 kq x0_1 x2_1 x3_1 = some r) ∧ Aside0 (kq ≤ k) ∧ Aside0 (Kd.R k41 41 w' w0.heap.size (fun k_ => (P0_ k_ ∨ w.heap.size ≤ k_)) (.slice Ao2 l0.length co2) x0_1) ∧ Aside0 (Kept w w' (fun k_ => P0_ k_)) ∧ Aside0 (Below w0.heap.size w0 w'))
  case atStart => exact ⟨(l0), (0), (wrap64 ((l0.length : Int) - 1)), (by first | rfl | (simp; done) | (simp [*]; done)), (by first | rfl | (simp; done) | (simp [*]; done)), H', ⟨Nat.le_refl _⟩, ⟨by (with_reducible repeat (first | apply Kd.R_alloc | apply Kd.R_drewN | apply Kd.R_drew)); exact HO0.out⟩, ⟨by repeat (first | (with_reducible first | exact HK.out | apply Kept.alloc | apply Kept.drewN | apply Kept.drew) | exact HK.out)⟩, ⟨by repeat (first | (with_reducible first | exact HB.out | apply below_alloc | apply pw_below_drewN | apply below_drew1) | exact HB.out)⟩⟩
  case round =>
    clear H'
    try clear p2
    obtain ⟨x0_1, x2_1, x3_1, rfl, rfl, HA, HK1, HO_0, HK, HB⟩ := hrel
    have hl0_1 := (Kd.R_reads' HO_0.out).1
    rw [hl0_1] at HO_0
    (try simp only [hl0_1])
    cases gk with
    | zero => exact absurd HA.out (by simp [api_Image.l0])
    | succ k1 =>
      have H := HA.out
      clear HA
      simp only [api_Image.l0] at H
      by_cases c3 : x2_1 < x3_1
      · rw [if_pos c3] at H
        have c3b0 : decide (x2_1 < x3_1) = true := decide_eq_true c3
        clear c3
        by_cases c4 : 0 ≤ x3_1
        · rw [if_pos c4] at H
          have c4b0 : decide (0 ≤ x3_1) = true := decide_eq_true c4
          clear c4
          by_cases c5 : x3_1 < (x0_1.length : Int)
          · rw [if_pos c5] at H
            have c5b0 : decide (x3_1 < (x0_1.length : Int)) = true := decide_eq_true c5
            clear c5
            by_cases c6 : 0 ≤ x2_1
            · rw [if_pos c6] at H
              have c6b0 : decide (0 ≤ x2_1) = true := decide_eq_true c6
              clear c6
              by_cases c7 : x2_1 < (x0_1.length : Int)
              · rw [if_pos c7] at H
                have c7b0 : decide (x2_1 < (x0_1.length : Int)) = true := decide_eq_true c7
                clear c7
                obtain ⟨y111, hy111⟩ : ∃ y_ : List (S41), y_ = (x0_1.set (x2_1 : Int).toNat (⟨(rd_T41 x0_1 x3_1).f0, (rd_T41 x0_1 x3_1).f1, (rd_T41 x0_1 x3_1).f2⟩ : S41)) := ⟨_, rfl⟩
                replace H : (api_Image.l0 k1 (y111.set (x3_1 : Int).toNat (⟨(rd_T41 x0_1 x2_1).f0, (rd_T41 x0_1 x2_1).f1, (rd_T41 x0_1 x2_1).f2⟩ : S41)) (wrap64 (x2_1 + 1)) (wrap64 (x3_1 - 1))) = some r := by first | (rw [hy111]; with_reducible exact H) | (have H2_ := (Option.bind_some _ _).symm.trans H; rw [hy111]; with_reducible exact H2_) | (have H2_ := (Option.bind_some _ _).symm.trans H; with_reducible exact H2_) | with_reducible exact H | (rw [hy111]; exact H) | exact H
                have Ny111 := Aside0.mk hy111
                clear hy111
                obtain ⟨y112, hy112⟩ : ∃ y_ : List (S41), y_ = (y111.set (x3_1 : Int).toNat (⟨(rd_T41 x0_1 x2_1).f0, (rd_T41 x0_1 x2_1).f1, (rd_T41 x0_1 x2_1).f2⟩ : S41)) := ⟨_, rfl⟩
                replace H : (api_Image.l0 k1 y112 (wrap64 (x2_1 + 1)) (wrap64 (x3_1 - 1))) = some r := by first | (rw [hy112]; with_reducible exact H) | (have H2_ := (Option.bind_some _ _).symm.trans H; rw [hy112]; with_reducible exact H2_) | (have H2_ := (Option.bind_some _ _).symm.trans H; with_reducible exact H2_) | with_reducible exact H | (rw [hy112]; exact H) | exact H
                have Ny112 := Aside0.mk hy112
                clear hy112
                have H' := Aside0.mk H
                clear H
                try go_wp2
                have n0_ := Aside0.mk (Kd.R_drew HO_0.out)
                have n1_ := Aside0.mk (Kept.drew HK.out)
                have n2_ := Aside0.mk (below_drew1 HB.out)
                clear HO_0
                clear HK
                clear HB
                have HO_0 := n0_
                have HK := n1_
                have HB := n2_
                clear n0_ n1_ n2_
                have p109 : 0 ≤ (x3_1 : Int) := of_decide_eq_true (by first | (with_reducible assumption) | assumption)
                have q109 : x3_1 < (x0_1.length : Int) := of_decide_eq_true (by first | (with_reducible assumption) | assumption)
                obtain ⟨ad109, e109, hx109_0, hx109_1, hx109_2⟩ := at_T41 (Kd.R_reads' HO_0.out).2.2 x3_1 p109 q109
                cases e109
                replace p109 := eq_true p109
                replace q109 := eq_true q109
                have p110 : 0 ≤ (x2_1 : Int) := of_decide_eq_true (by first | (with_reducible assumption) | assumption)
                have q110 : x2_1 < (x0_1.length : Int) := of_decide_eq_true (by first | (with_reducible assumption) | assumption)
                obtain ⟨ad110, e110, hx110_0, hx110_1, hx110_2⟩ := at_T41 (Kd.R_reads' HO_0.out).2.2 x2_1 p110 q110
                obtain rfl : ad109 = ad110 := (by injection e110)
                replace p110 := eq_true p110
                replace q110 := eq_true q110
                have p8 : 0 ≤ (x2_1 : Int) := of_decide_eq_true (by first | (with_reducible assumption) | assumption)
                have q8 : (x2_1 : Int) < ((x0_1.length : Int) : Int) := of_decide_eq_true (by first | (with_reducible assumption) | assumption)
                obtain ⟨go8, co8, eo8, gb8, gl8, cl8, HG8⟩ := Kd.R_form HO_0.out (by omega)
                (first | cases eo8 | (injection eo8 with ea_ en_ ec_; (first | subst ea_ | (injection ea_ with ea_; subst ea_)); subst ec_; clear en_))
                have GB8 := Aside0.mk gb8
                have GG8 := Aside0.mk HG8
                clear gb8 gl8 HG8
                have HMgo8 := Aside0.mk (show (P0_ go8 ∨ w.heap.size ≤ go8) from (HO_0.out.1 _ rfl))
                (first | simp only [add_plain] at hx109_0 | skip)
                (first | simp only [add_plain] at hx109_1 | skip)
                (first | simp only [add_plain] at hx109_2 | skip)
                (first | simp only [add_plain] at hx110_0 | skip)
                (first | simp only [add_plain] at hx110_1 | skip)
                (first | simp only [add_plain] at hx110_2 | skip)
                obtain ⟨ce8, hcl8, hM8, hcc8, hfr8⟩ := Kd.R_elem HO_0.out z41 (x2_1 : Int) p8 q8
                obtain rfl := k41_openM hM8
                have hx8_0 : World.cell? _ ⟨go8, (x2_1 : Int).toNat * 3, none⟩ = some (.string ((rd_T41 x0_1 x2_1).f0)) := hcc8 0 _ rfl
                have hx8_1 : World.cell? _ ⟨go8, (x2_1 : Int).toNat * 3 + 1, none⟩ = some (.bool ((rd_T41 x0_1 x2_1).f1)) := hcc8 1 _ rfl
                have hx8_2 : World.cell? _ ⟨go8, (x2_1 : Int).toNat * 3 + 2, none⟩ = some (.string ((rd_T41 x0_1 x2_1).f2)) := hcc8 2 _ rfl
                have hf8_0 : World.frozen? _ ⟨go8, (x2_1 : Int).toNat * 3, none⟩ = false := hfr8 0
                have hf8_1 : World.frozen? _ ⟨go8, (x2_1 : Int).toNat * 3 + 1, none⟩ = false := hfr8 1
                have hf8_2 : World.frozen? _ ⟨go8, (x2_1 : Int).toNat * 3 + 2, none⟩ = false := hfr8 2
                clear hcl8 hcc8 hfr8 hM8
                replace p8 := eq_true p8
                replace q8 := eq_true q8
                obtain ⟨ce11, hcl11, hM11, hcc11, hfr11⟩ := Kd.R_elem HO_0.out z41 (x2_1 : Int) (of_decide_eq_true (by first | (with_reducible assumption) | assumption)) (by have h_ : (x2_1 : Int) < ((x0_1.length : Int) : Int) := of_decide_eq_true (by first | (with_reducible assumption) | assumption); first | exact h_ | (have e_ := (Kd.R_reads' HO_0.out).1; omega) | simpa using h_)
                obtain rfl := k41_openM hM11
                have HP11 := (Kd.R_seg HO_0.out (x2_1 : Int) (of_decide_eq_true (by first | (with_reducible assumption) | assumption)) (by have h_ : (x2_1 : Int) < ((x0_1.length : Int) : Int) := of_decide_eq_true (by first | (with_reducible assumption) | assumption); first | exact h_ | (have e_ := (Kd.R_reads' HO_0.out).1; omega) | simpa using h_) (seg := [.string ((rd_T41 x0_1 x3_1).f0), .bool ((rd_T41 x0_1 x3_1).f1), .string ((rd_T41 x0_1 x3_1).f2)]) (j := 0) hcl11 hcc11 (show 3 ≤ 3 from by decide) (x' := (⟨(rd_T41 x0_1 x3_1).f0, (rd_T41 x0_1 x3_1).f1, (rd_T41 x0_1 x3_1).f2⟩ : S41)) (k41_mkM _ _ _ (⟨(rd_T41 x0_1 x3_1).f0, (rd_T41 x0_1 x3_1).f1, (rd_T41 x0_1 x3_1).f2⟩ : S41) ) (fun _ hk => hk)).1
                rw [← Ny111.out] at HP11
                have HQ11 := Aside0.mk HP11
                clear hcl11 hcc11 hfr11 hM11 HP11
                have p9 : 0 ≤ (x3_1 : Int) := of_decide_eq_true (by first | (with_reducible assumption) | assumption)
                have q9 : (x3_1 : Int) < ((x0_1.length : Int) : Int) := of_decide_eq_true (by first | (with_reducible assumption) | assumption)
                obtain ⟨ce9, hcl9, hM9, hcc9, hfr9⟩ := Kd.R_elem HQ11.out z41 (x3_1 : Int) p9 q9
                obtain rfl := k41_openM hM9
                have hx9_0 : World.cell? _ ⟨go8, (x3_1 : Int).toNat * 3, none⟩ = some (.string ((rd_T41 y111 x3_1).f0)) := hcc9 0 _ rfl
                have hx9_1 : World.cell? _ ⟨go8, (x3_1 : Int).toNat * 3 + 1, none⟩ = some (.bool ((rd_T41 y111 x3_1).f1)) := hcc9 1 _ rfl
                have hx9_2 : World.cell? _ ⟨go8, (x3_1 : Int).toNat * 3 + 2, none⟩ = some (.string ((rd_T41 y111 x3_1).f2)) := hcc9 2 _ rfl
                have hf9_0 : World.frozen? _ ⟨go8, (x3_1 : Int).toNat * 3, none⟩ = false := hfr9 0
                have hf9_1 : World.frozen? _ ⟨go8, (x3_1 : Int).toNat * 3 + 1, none⟩ = false := hfr9 1
                have hf9_2 : World.frozen? _ ⟨go8, (x3_1 : Int).toNat * 3 + 2, none⟩ = false := hfr9 2
                clear hcl9 hcc9 hfr9 hM9
                replace p9 := eq_true p9
                replace q9 := eq_true q9
                obtain ⟨ce12, hcl12, hM12, hcc12, hfr12⟩ := Kd.R_elem HQ11.out z41 (x3_1 : Int) (of_decide_eq_true (by first | (with_reducible assumption) | assumption)) (by have h_ : (x3_1 : Int) < ((x0_1.length : Int) : Int) := of_decide_eq_true (by first | (with_reducible assumption) | assumption); first | exact h_ | (have e_ := (Kd.R_reads' HO_0.out).1; omega) | simpa using h_)
                obtain rfl := k41_openM hM12
                have HP12 := (Kd.R_seg HQ11.out (x3_1 : Int) (of_decide_eq_true (by first | (with_reducible assumption) | assumption)) (by have h_ : (x3_1 : Int) < ((x0_1.length : Int) : Int) := of_decide_eq_true (by first | (with_reducible assumption) | assumption); first | exact h_ | (have e_ := (Kd.R_reads' HO_0.out).1; omega) | simpa using h_) (seg := [.string ((rd_T41 x0_1 x2_1).f0), .bool ((rd_T41 x0_1 x2_1).f1), .string ((rd_T41 x0_1 x2_1).f2)]) (j := 0) hcl12 hcc12 (show 3 ≤ 3 from by decide) (x' := (⟨(rd_T41 x0_1 x2_1).f0, (rd_T41 x0_1 x2_1).f1, (rd_T41 x0_1 x2_1).f2⟩ : S41)) (k41_mkM _ _ _ (⟨(rd_T41 x0_1 x2_1).f0, (rd_T41 x0_1 x2_1).f1, (rd_T41 x0_1 x2_1).f2⟩ : S41) ) (fun _ hk => hk)).1
                rw [← Ny112.out] at HP12
                have HQ12 := Aside0.mk HP12
                clear hcl12 hcc12 hfr12 hM12 HP12
                refine start_ (n := 16) (S := fun w' => w'.cell? ⟨go8, ((x3_1).toNat * 3), none⟩ = some (.string ((rd_T41 x0_1 x3_1).f0)) ∧ w'.cell? ⟨go8, ((x3_1).toNat * 3) + 1, none⟩ = some (.bool ((rd_T41 x0_1 x3_1).f1)) ∧ w'.cell? ⟨go8, ((x3_1).toNat * 3) + 2, none⟩ = some (.string ((rd_T41 x0_1 x3_1).f2)) ∧ w'.cell? ⟨go8, ((x2_1).toNat * 3), none⟩ = some (.string ((rd_T41 x0_1 x2_1).f0)) ∧ w'.cell? ⟨go8, ((x2_1).toNat * 3) + 1, none⟩ = some (.bool ((rd_T41 x0_1 x2_1).f1)) ∧ w'.cell? ⟨go8, ((x2_1).toNat * 3) + 2, none⟩ = some (.string ((rd_T41 x0_1 x2_1).f2))) (ds := [13, 15]) #[false, false, false, false, false, false, false, false, false, false, false, false, false, false, false, false] (by kernel_rfl) rfl rfl ⟨hx109_0, hx109_1, hx109_2, hx110_0, hx110_1, hx110_2⟩ (fun hHeld => ?_); refine with_tabW api_Image.tab3 api_Image.bits3 (fun HT_ HW_ => ?_)
                generalize wr.drew = w10 at HO_0 HK HB GG8 HQ11 HQ12 hf8_0 hf8_1 hf8_2 hf9_0 hf9_1 hf9_2 hx109_0 hx109_1 hx109_2 hx110_0 hx110_1 hx110_2 hx8_0 hx8_1 hx8_2 hx9_0 hx9_1 hx9_2 hHeld ⊢
                refine pure_ (i := 0) (N := some 14) (v := ?_) (a' := ?_) #[true, false, false, false, false, false, false, false, false, false, false, false, false, false, false, false] rfl rfl (any_of HT_.out (by kernel_rfl)) (fun _ _ _ h => h) (Or.inl ⟨by rfl, ?_⟩) ?_ ?_
                rotate_left
                · intro w'
                  go_simp
                  with_reducible rfl
                rotate_left
                · simp only [Act.put, List.setIfInBounds_toArray, List.set_cons_zero, List.set_cons_succ, i64_w, i32_w]
                  rfl
                refine pure_ (i := 1) (N := some 15) (v := ?_) (a' := ?_) #[true, true, false, false, false, false, false, false, false, false, false, false, false, false, false, false] rfl rfl (any_of HT_.out (by kernel_rfl)) (fun _ _ _ h => h) (Or.inl ⟨by rfl, ?_⟩) ?_ ?_
                rotate_left
                · intro w'
                  go_simp
                  with_reducible rfl
                rotate_left
                · simp only [Act.put, List.setIfInBounds_toArray, List.set_cons_zero, List.set_cons_succ, i64_w, i32_w]
                  rfl
                refine pure_ (i := 2) (N := some 16) (v := ?_) (a' := ?_) #[true, true, true, false, false, false, false, false, false, false, false, false, false, false, false, false] rfl rfl (any_of HT_.out (by kernel_rfl)) (fun _ _ _ h => h) (Or.inl ⟨by rfl, ?_⟩) ?_ ?_
                rotate_left
                · intro w'
                  go_simp
                  with_reducible rfl
                rotate_left
                · simp only [Act.put, List.setIfInBounds_toArray, List.set_cons_zero, List.set_cons_succ, i64_w, i32_w]
                  rfl
                refine pure_ (i := 3) (N := some 17) (v := ?_) (a' := ?_) #[true, true, true, true, false, false, false, false, false, false, false, false, false, false, false, false] rfl rfl (any_of HT_.out (by kernel_rfl)) (fun _ _ _ h => h) (Or.inl ⟨by rfl, ?_⟩) ?_ ?_
                rotate_left
                · intro w'
                  go_simp
                  with_reducible rfl
                rotate_left
                · simp only [Act.put, List.setIfInBounds_toArray, List.set_cons_zero, List.set_cons_succ, i64_w, i32_w]
                  rfl
                refine pure_ (i := 4) (N := some 18) (v := ?_) (a' := ?_) #[true, true, true, true, true, false, false, false, false, false, false, false, false, false, false, false] rfl rfl (any_of HT_.out (by kernel_rfl)) (fun _ _ _ h => h) (Or.inl ⟨by rfl, ?_⟩) ?_ ?_
                rotate_left
                · intro w'
                  go_simp
                  with_reducible rfl
                rotate_left
                · simp only [Act.put, List.setIfInBounds_toArray, List.set_cons_zero, List.set_cons_succ, i64_w, i32_w]
                  rfl
                refine pure_ (i := 5) (N := some 19) (v := ?_) (a' := ?_) #[true, true, true, true, true, true, false, false, false, false, false, false, false, false, false, false] rfl rfl (any_of HT_.out (by kernel_rfl)) (fun _ _ _ h => h) (Or.inl ⟨by rfl, ?_⟩) ?_ ?_
                rotate_left
                · intro w'
                  go_simp
                  with_reducible rfl
                rotate_left
                · simp only [Act.put, List.setIfInBounds_toArray, List.set_cons_zero, List.set_cons_succ, i64_w, i32_w]
                  rfl
                refine pure_ (i := 6) (N := some 20) (v := ?_) (a' := ?_) #[true, true, true, true, true, true, true, false, false, false, false, false, false, false, false, false] rfl rfl (any_of HT_.out (by kernel_rfl)) (fun _ _ _ h => h) (Or.inl ⟨by rfl, ?_⟩) ?_ ?_
                rotate_left
                · intro w'
                  go_simp
                  with_reducible rfl
                rotate_left
                · simp only [Act.put, List.setIfInBounds_toArray, List.set_cons_zero, List.set_cons_succ, i64_w, i32_w]
                  rfl
                refine pure_ (i := 8) (N := some 22) (v := ?_) (a' := ?_) #[true, true, true, true, true, true, true, false, true, false, false, false, false, false, false, false] rfl rfl (any_of HT_.out (by kernel_rfl)) (fun _ _ _ h => h) (Or.inl ⟨by rfl, ?_⟩) ?_ ?_
                rotate_left
                · intro w'
                  go_simp
                  with_reducible rfl
                rotate_left
                · simp only [Act.put, List.setIfInBounds_toArray, List.set_cons_zero, List.set_cons_succ, i64_w, i32_w]
                  rfl
                refine pure_ (i := 9) (N := some 23) (v := ?_) (a' := ?_) #[true, true, true, true, true, true, true, false, true, true, false, false, false, false, false, false] rfl rfl (any_of HT_.out (by kernel_rfl)) (fun _ _ _ h => h) (Or.inl ⟨by rfl, ?_⟩) ?_ ?_
                rotate_left
                · intro w'
                  go_simp
                  with_reducible rfl
                rotate_left
                · simp only [Act.put, List.setIfInBounds_toArray, List.set_cons_zero, List.set_cons_succ, i64_w, i32_w]
                  rfl
                refine pure_ (i := 10) (N := some 24) (v := ?_) (a' := ?_) #[true, true, true, true, true, true, true, false, true, true, true, false, false, false, false, false] rfl rfl (any_of HT_.out (by kernel_rfl)) (fun _ _ _ h => h) (Or.inl ⟨by rfl, ?_⟩) ?_ ?_
                rotate_left
                · intro w'
                  go_simp
                  with_reducible rfl
                rotate_left
                · simp only [Act.put, List.setIfInBounds_toArray, List.set_cons_zero, List.set_cons_succ, i64_w, i32_w]
                  rfl
                refine take_ (i := 7) (N := some 21) (v := ?_) (a' := ?_) #[true, true, true, true, true, true, true, true, true, true, true, false, false, false, false, false] rfl rfl (take_ofW HT_.out HW_.out (by kernel_rfl)) (fun _ _ _ h => h) (Or.inl ⟨by rfl, ?_⟩) hHeld ?_ ?_
                rotate_left
                · rintro w' ⟨s0, s1, s2, s3, s4, s5⟩
                  go_simp
                  with_reducible rfl
                rotate_left
                · simp only [Act.put, List.setIfInBounds_toArray, List.set_cons_zero, List.set_cons_succ, i64_w, i32_w]
                  rfl
                refine take_ (i := 11) (N := some 25) (v := ?_) (a' := ?_) #[true, true, true, true, true, true, true, true, true, true, true, true, false, false, false, false] rfl rfl (take_ofW HT_.out HW_.out (by kernel_rfl)) (fun _ _ _ h => h) (Or.inl ⟨by rfl, ?_⟩) hHeld ?_ ?_
                rotate_left
                · rintro w' ⟨s0, s1, s2, s3, s4, s5⟩
                  go_simp
                  with_reducible rfl
                rotate_left
                · simp only [Act.put, List.setIfInBounds_toArray, List.set_cons_zero, List.set_cons_succ, i64_w, i32_w]
                  rfl
                refine pure_ (i := 12) (N := some 26) (v := ?_) (a' := ?_) #[true, true, true, true, true, true, true, true, true, true, true, true, true, false, false, false] rfl rfl (any_of HT_.out (by kernel_rfl)) (fun _ _ _ h => h) (Or.inl ⟨by rfl, ?_⟩) ?_ ?_
                rotate_left
                · intro w'
                  go_simp
                  with_reducible rfl
                rotate_left
                · simp only [Act.put, List.setIfInBounds_toArray, List.set_cons_zero, List.set_cons_succ, i64_w, i32_w]
                  rfl
                have hne_ : x2_1.toNat ≠ x3_1.toNat := by
                  have h1 := of_decide_eq_true c3b0
                  have h2 := of_decide_eq_true c6b0
                  omega
                have hfr0 : w10.frozen? ⟨go8, x3_1.toNat * 3, none⟩ = false := by rw [← hf9_0, World.frozen?_setCells]
                have hfr1 : w10.frozen? ⟨go8, x3_1.toNat * 3 + 1, none⟩ = false := by rw [← hf9_1, World.frozen?_setCells]
                have hfr2 : w10.frozen? ⟨go8, x3_1.toNat * 3 + 2, none⟩ = false := by rw [← hf9_2, World.frozen?_setCells]
                have hz00 : ∀ (W : World) u, (W.setCell ⟨go8, x2_1.toNat * 3, none⟩ u).cell? ⟨go8, x3_1.toNat * 3, none⟩ = W.cell? ⟨go8, x3_1.toNat * 3, none⟩ := fun W u => World.cell?_setCell_other _ _ _ _ (by rw [ne_eq, Addr.mk.injEq]; omega)
                have hz01 : ∀ (W : World) u, (W.setCell ⟨go8, x2_1.toNat * 3, none⟩ u).cell? ⟨go8, x3_1.toNat * 3 + 1, none⟩ = W.cell? ⟨go8, x3_1.toNat * 3 + 1, none⟩ := fun W u => World.cell?_setCell_other _ _ _ _ (by rw [ne_eq, Addr.mk.injEq]; omega)
                have hz02 : ∀ (W : World) u, (W.setCell ⟨go8, x2_1.toNat * 3, none⟩ u).cell? ⟨go8, x3_1.toNat * 3 + 2, none⟩ = W.cell? ⟨go8, x3_1.toNat * 3 + 2, none⟩ := fun W u => World.cell?_setCell_other _ _ _ _ (by rw [ne_eq, Addr.mk.injEq]; omega)
                have hz10 : ∀ (W : World) u, (W.setCell ⟨go8, x2_1.toNat * 3 + 1, none⟩ u).cell? ⟨go8, x3_1.toNat * 3, none⟩ = W.cell? ⟨go8, x3_1.toNat * 3, none⟩ := fun W u => World.cell?_setCell_other _ _ _ _ (by rw [ne_eq, Addr.mk.injEq]; omega)
                have hz11 : ∀ (W : World) u, (W.setCell ⟨go8, x2_1.toNat * 3 + 1, none⟩ u).cell? ⟨go8, x3_1.toNat * 3 + 1, none⟩ = W.cell? ⟨go8, x3_1.toNat * 3 + 1, none⟩ := fun W u => World.cell?_setCell_other _ _ _ _ (by rw [ne_eq, Addr.mk.injEq]; omega)
                have hz12 : ∀ (W : World) u, (W.setCell ⟨go8, x2_1.toNat * 3 + 1, none⟩ u).cell? ⟨go8, x3_1.toNat * 3 + 2, none⟩ = W.cell? ⟨go8, x3_1.toNat * 3 + 2, none⟩ := fun W u => World.cell?_setCell_other _ _ _ _ (by rw [ne_eq, Addr.mk.injEq]; omega)
                have hz20 : ∀ (W : World) u, (W.setCell ⟨go8, x2_1.toNat * 3 + 2, none⟩ u).cell? ⟨go8, x3_1.toNat * 3, none⟩ = W.cell? ⟨go8, x3_1.toNat * 3, none⟩ := fun W u => World.cell?_setCell_other _ _ _ _ (by rw [ne_eq, Addr.mk.injEq]; omega)
                have hz21 : ∀ (W : World) u, (W.setCell ⟨go8, x2_1.toNat * 3 + 2, none⟩ u).cell? ⟨go8, x3_1.toNat * 3 + 1, none⟩ = W.cell? ⟨go8, x3_1.toNat * 3 + 1, none⟩ := fun W u => World.cell?_setCell_other _ _ _ _ (by rw [ne_eq, Addr.mk.injEq]; omega)
                have hz22 : ∀ (W : World) u, (W.setCell ⟨go8, x2_1.toNat * 3 + 2, none⟩ u).cell? ⟨go8, x3_1.toNat * 3 + 2, none⟩ = W.cell? ⟨go8, x3_1.toNat * 3 + 2, none⟩ := fun W u => World.cell?_setCell_other _ _ _ _ (by rw [ne_eq, Addr.mk.injEq]; omega)
                clear hne_
                refine last_ (i := 13) (N := none) #[true, true, true, true, true, true, true, true, true, true, true, true, true, true, false, false] rfl rfl (one_of HT_.out (by kernel_rfl)) (by decide) (fun K hK => ?_)
                refine skip_ (w1 := ?_) (by rfl) rfl ?_ ?_
                rotate_left
                · go_simp
                  rfl
                refine hK.out _ _ ?_
                clear hK K
                refine pure_ (i := 14) (N := some 27) (v := ?_) (a' := ?_) #[true, true, true, true, true, true, true, true, true, true, true, true, true, true, true, false] rfl rfl (any_of HT_.out (by kernel_rfl)) (fun _ _ _ h => h) (Or.inl ⟨by rfl, ?_⟩) ?_ ?_
                rotate_left
                · intro w'
                  go_simp
                  with_reducible rfl
                rotate_left
                · simp only [Act.put, List.setIfInBounds_toArray, List.set_cons_zero, List.set_cons_succ, i64_w, i32_w]
                  rfl
                refine last_ (i := 15) (N := none) #[true, true, true, true, true, true, true, true, true, true, true, true, true, true, true, true] rfl rfl (one_of HT_.out (by kernel_rfl)) (by decide) (fun K hK => ?_)
                refine skip_ (w1 := ?_) (by rfl) rfl ?_ ?_
                rotate_left
                · go_simp
                  rfl
                refine hK.out _ _ ?_
                clear hK K
                refine done_ (done_of HT_.out (by kernel_rfl)) ?_
                try go_wp2
                (try simp only [← hl0_1])
                go_roundg k1
                case measure => have := HK1.out; omega
                case rel => exact ⟨(y112), (wrap64 (x2_1 + 1)), (wrap64 (x3_1 - 1)), (by first | rfl | (simp; done) | (simp [*]; done)), (by first | rfl | (simp; done) | (simp [*]; done)), H', ⟨by have := HK1.out; omega⟩, ⟨by (try simp only [hl0_1]); (with_reducible repeat (first | apply Kd.R_alloc | apply Kd.R_drewN | apply Kd.R_drew)); exact HQ12.out⟩, ⟨by repeat (first | (with_reducible first | exact HK.out | apply Kept.alloc | apply Kept.drewN | apply Kept.drew | refine Kept.setCell ?_ HMgo8.out _ | refine Kept.setCell ?_ HMgo8.out _ | refine Kept.setCell ?_ HMgo8.out _ | refine Kept.setCell ?_ HMgo8.out _ | refine Kept.setCell ?_ HMgo8.out _ | refine Kept.setCell ?_ HMgo8.out _) | exact HK.out)⟩, ⟨by repeat (first | (with_reducible first | exact HB.out | apply below_alloc | apply pw_below_drewN | apply below_drew1 | refine below_set ?_ GB8.out | refine below_set ?_ GB8.out | refine below_set ?_ GB8.out | refine below_set ?_ GB8.out | refine below_set ?_ GB8.out | refine below_set ?_ GB8.out) | exact HB.out)⟩⟩
              · rw [if_neg c7] at H
                exact absurd H (by simp)
            · rw [if_neg c6] at H
              exact absurd H (by simp)
          · rw [if_neg c5] at H
            exact absurd H (by simp)
        · rw [if_neg c4] at H
          exact absurd H (by simp)
      · rw [if_neg c3] at H
        have c3b0 : decide (x2_1 < x3_1) = false := decide_eq_false c3
        clear c3
        obtain rfl := Option.some.inj H
        go_wp2
        first | go_end0 | ((try simp only [Exit.inBlock, Exit.then]); refine bodyPost_ret (results_none rfl _ _ _) rfl ?_)
        exact ⟨by first | rfl | (simp [errW_none, errW_some] <;> rfl) | (simp [*, errW_none, errW_some] <;> rfl), (by first | exact (by (with_reducible repeat (first | apply Kd.R_alloc | apply Kd.R_drewN | apply Kd.R_drew)); exact HO_0.out) | (simp only [hl0_1]; exact (by (with_reducible repeat (first | apply Kd.R_alloc | apply Kd.R_drewN | apply Kd.R_drew)); exact HO_0.out))), by repeat (first | (with_reducible first | exact HB.out | apply below_alloc | apply pw_below_drewN | apply below_drew1) | exact HB.out), by repeat (first | (with_reducible first | exact HK.out | apply Kept.alloc | apply Kept.drewN | apply Kept.drew) | exact HK.out)⟩

end Go.Proofs.Yteblpjnkinghoaa.J
/- slices.Reverse of images, as the printed function has it, is the list turned round. -/
namespace Go.Proofs.Yteblpjnkinghoaa.J
open Go.BigFrame Go.RowKit Go.Proofs.YteblpjnkinghoaaW.PrintWords Go.Proofs.YteblpjnkinghoaaW.PrintLast Go.Proofs.YteblpjnkinghoaaW.PrintMore
theorem rd41_at {x : List S41} {k : Nat} (h : k < x.length) : x[k]? = some (rd_T41 x (k : Int)) := by
  unfold rd_T41
  rw [Int.toNat_natCast, List.getD_eq_getElem?_getD, List.getElem?_eq_getElem h]; rfl
theorem rev_from : ∀ (k : Nat) (x : List S41) (i j : Nat), x.length ≤ 9223372036854775807 → i + j + 1 = x.length → i ≤ j + 1 → x.length + 1 ≤ 2 * (i + k) →
    ∃ y, api_Image.l0 k x (i : Int) (j : Int) = some y ∧ y.length = x.length ∧ ∀ m, y[m]? = if i ≤ m ∧ m ≤ j then x[x.length - 1 - m]? else x[m]?
  | 0, x, i, j, hl, hn, h1, hk => by omega
  | k + 1, x, i, j, hl, hn, h1, hk => by
    rw [api_Image.l0]
    by_cases hij : i < j
    · rw [if_pos (by omega), if_pos (by omega), if_pos (by omega), if_pos (by omega), if_pos (by omega)]
      have w1 : wrap64 ((i : Int) + 1) = ((i + 1 : Nat) : Int) := by unfold wrap64; omega
      have w2 : wrap64 ((j : Int) - 1) = ((j - 1 : Nat) : Int) := by unfold wrap64; omega
      rw [w1, w2, Int.toNat_natCast, Int.toNat_natCast]
      have hi := rd41_at (x := x) (k := i) (by omega)
      have hj := rd41_at (x := x) (k := j) (by omega)
      generalize rd_T41 x (i : Int) = a at hi ⊢
      generalize rd_T41 x (j : Int) = b at hj ⊢
      have ea : (⟨a.f0, a.f1, a.f2⟩ : S41) = a := rfl
      have eb : (⟨b.f0, b.f1, b.f2⟩ : S41) = b := rfl
      rw [ea, eb]
      obtain ⟨y, hy, hyl, hym⟩ := rev_from k ((x.set i b).set j a) (i + 1) (j - 1) (by simpa using hl) (by simp; omega) (by omega) (by simp; omega)
      refine ⟨y, hy, by rw [hyl]; simp, fun m => ?_⟩
      rw [hym m]
      simp only [List.length_set]
      by_cases hm : i + 1 ≤ m ∧ m ≤ j - 1
      · rw [if_pos hm, if_pos (by omega), List.getElem?_set_ne (by omega), List.getElem?_set_ne (by omega)]
      · rw [if_neg hm]
        by_cases h1 : m = i
        · subst h1
          rw [if_pos (by omega), List.getElem?_set_ne (by omega), List.getElem?_set_self (by omega), show x.length - 1 - m = j by omega, hj]
        · by_cases h2 : m = j
          · subst h2
            rw [if_pos (by omega), List.getElem?_set_self (by simp; omega), show x.length - 1 - m = i by omega, hi]
          · rw [if_neg (by omega), List.getElem?_set_ne (by omega), List.getElem?_set_ne (by omega)]
    · rw [if_neg (by omega)]
      refine ⟨x, rfl, rfl, fun m => ?_⟩
      by_cases h : i ≤ m ∧ m ≤ j
      · rw [if_pos h, show x.length - 1 - m = m by omega]
      · rw [if_neg h]
theorem rev_all (x : List S41) (hl : x.length ≤ 9223372036854775807) : api_Image.f (x.length + 1) x = some x.reverse := by
  unfold api_Image.f
  by_cases h0 : x.length = 0
  · obtain rfl := List.eq_nil_of_length_eq_zero h0
    rw [show wrap64 ((([] : List S41).length : Int) - 1) = -1 by unfold wrap64; simp]
    rfl
  · have w : wrap64 ((x.length : Int) - 1) = ((x.length - 1 : Nat) : Int) := by unfold wrap64; omega
    rw [w]
    obtain ⟨y, hy, hyl, hym⟩ := rev_from (x.length + 1) x 0 (x.length - 1) hl (by omega) (by omega) (by omega)
    rw [show ((0 : Nat) : Int) = 0 from rfl] at hy
    rw [hy]
    congr 1
    apply List.ext_getElem?
    intro m
    rw [hym m]
    by_cases hm : m < x.length
    · rw [if_pos (by omega), List.getElem?_reverse hm]
    · rw [if_neg (by omega), List.getElem?_eq_none (by omega), List.getElem?_eq_none (by simp; omega)]
end Go.Proofs.Yteblpjnkinghoaa.J
/- The contract of journal.Redo, for every slice of notes and every index. -/
namespace Go.Proofs.Yteblpjnkinghoaa.J
open Go.BigFrame Go.RowKit Go.Proofs.YteblpjnkinghoaaW.PrintWords Go.Proofs.YteblpjnkinghoaaW.PrintLast Go.Proofs.YteblpjnkinghoaaW.PrintMore Go.Proofs.YteblpjnkinghoaaW.Mw
def imgOf (n : S39) : S41 := ⟨n.f2, n.f3, n.f4⟩
/-- One note of Redo, from the last to the first. -/
def redoStep (st : (Int → Bool) × List S41) (n : S39) : (Int → Bool) × List S41 :=
  if n.f0 = 4 ∨ n.f0 = 5 then (fun u => if u = n.f1 then true else st.1 u, st.2)
  else if n.f0 = 7 ∨ n.f0 = 1 then (fun u => if u = n.f1 then false else st.1 u, st.2)
  else if n.f0 = 3 then (if st.1 n.f1 = true then (st.1, st.2 ++ [imgOf n]) else st)
  else st
def redoAll (l : List S39) : (Int → Bool) × List S41 := l.reverse.foldl redoStep (fun _ => false, [])
theorem redoAll_cons (n : S39) (l : List S39) : redoAll (n :: l) = redoStep (redoAll l) n := by
  unfold redoAll; rw [List.reverse_cons, List.foldl_append]; rfl
def journal_Redo.f (l0 : List (S39)) (a1 : Int) : Option ((List (S41)) × Int) :=
  (journal_right.f l0).bind fun e => if e = 0 then (if a1 < 0 ∨ (l0.length : Int) < a1 then some ([], 7) else some ((redoAll (l0.drop a1.toNat)).2.reverse, 0)) else some ([], e)
/-- What right answers. -/
def rightN (l : List S39) : Int := (journal_right.f l).getD 0
theorem zero4 (w : World) : (zeroValue 4).run Try.prog w = .ok (.bool false) w := by kernel_rfl
noncomputable def K3 : Keys Try.prog 3 Int := intKeys Try.prog 3 Try.underlying3
theorem redo_no (e : Int) (A0 : Option Addr) (c0 : Nat) (l0 : List (S39)) (a1 : Int) (w : World) (hr0 : Kd.C k39 w A0 l0.length l0) (hc0 : l0.length ≤ c0) (he : journal_right.f l0 = some e) (h : e ≠ 0) :
    Calls Try.prog 18 #[.slice A0 l0.length c0, .int .i64 a1] w fun r w' => r = .returned (.tuple #[.slice none 0 0, .int .i64 e]) ∧ Below w.heap.size w w' := by
  have HR0 := Aside0.mk hr0
  have HC0 := Aside0.mk hc0
  have HE := Aside0.mk he
  clear hr0 hc0 he
  have h1 : (e != 0) = true := bne_iff_ne.2 h
  clear h
  go_enter Try.func18, Try.ntmps18
  go_wp2_with (go_at_call 40; refine (journal_right.calls _ _ _ _ _ HR0.out HC0.out HE.out).mono ?_; rintro r w1 ⟨rfl, hb⟩)
  go_ret2
  exact ⟨rfl, hb⟩
theorem redo_range (A0 : Option Addr) (c0 : Nat) (l0 : List (S39)) (a1 : Int) (w : World) (hr0 : Kd.C k39 w A0 l0.length l0) (hc0 : l0.length ≤ c0) (he : journal_right.f l0 = some 0) (h : a1 < 0 ∨ (l0.length : Int) < a1) :
    Calls Try.prog 18 #[.slice A0 l0.length c0, .int .i64 a1] w fun r w' => r = .returned (.tuple #[.slice none 0 0, .int .i64 7]) ∧ Below w.heap.size w w' := by
  have HR0 := Aside0.mk hr0
  have HC0 := Aside0.mk hc0
  have HE := Aside0.mk he
  clear hr0 hc0 he
  by_cases h1 : a1 < 0
  · clear h
    go_enter Try.func18, Try.ntmps18
    go_wp2_with (go_at_call 40; refine (journal_right.calls _ _ _ _ _ HR0.out HC0.out HE.out).mono ?_; rintro r w1 ⟨rfl, hb⟩)
    go_ret2
    exact ⟨rfl, hb⟩
  · have h2 : (l0.length : Int) < a1 := by omega
    clear h
    go_enter Try.func18, Try.ntmps18
    go_wp2_with (go_at_call 40; refine (journal_right.calls _ _ _ _ _ HR0.out HC0.out HE.out).mono ?_; rintro r w1 ⟨rfl, hb⟩)
    go_ret2
    exact ⟨rfl, hb⟩
set_option maxHeartbeats 2000000 in
set_option maxRecDepth 100000 in
theorem redo_yes (A0 : Option Addr) (c0 : Nat) (l0 : List (S39)) (a1 : Int) (w : World) (hr0 : Kd.C k39 w A0 l0.length l0) (hc0 : l0.length ≤ c0) (he : journal_right.f l0 = some 0) (hl0 : 0 ≤ a1) (hl1 : a1 ≤ (l0.length : Int)) (hle : l0.length ≤ 1000) :
    Calls Try.prog 18 #[.slice A0 l0.length c0, .int .i64 a1] w fun r w' => ∃ v, r = .returned (.tuple #[v, .int .i64 0]) ∧ Kd.R k41 41 w' w.heap.size (fun _ => True) v (redoAll (l0.drop a1.toNat)).2.reverse ∧ Below w.heap.size w w' := by
  have HR0 := Aside0.mk hr0
  have HC0 := Aside0.mk hc0
  have HE := Aside0.mk he
  clear hr0 hc0 he
  have hmm := @run_makeMap Try.prog
  go_enter Try.func18, Try.ntmps18
  go_wp2_with (go_at_call 40; refine (journal_right.calls _ _ _ _ _ HR0.out HC0.out HE.out).mono ?_; rintro r w1 ⟨rfl, hb⟩)
  obtain ⟨b, hbe⟩ : ∃ b, b = w1.heap.size := ⟨_, rfl⟩
  have hB2 := hb.alloc hb.size (.map #[] 0)
  have hH2 := Holds.made K3 w1
  have hbb : w.heap.size ≤ b := by rw [hbe]; exact hb.size
  rw [← hbe] at hH2 ⊢
  have HBB := Aside0.mk hbb
  clear hbb hb hbe
  generalize w1.alloc (.map #[] 0) = w2 at hB2 hH2 ⊢
  have HB := Aside0.mk hB2
  have HH := Aside0.mk hH2
  clear hB2 hH2 hmm
  go_loopg [7, 9] (l0.length + 1 - a1.toNat) (fun kq v7 v9 w' => ∃ (i : Int) (c : Int → Bool) (out : List S41) (F : Int → Option Value), v9 = .int .i64 i ∧ a1 - 1 ≤ i ∧ i < l0.length ∧ Aside0 ((kq : Int) = i + 2 - a1) ∧ Aside0 ((c, out) = redoAll (l0.drop (i + 1).toNat)) ∧ Aside0 (out.length + (i + 1).toNat ≤ l0.length) ∧ Aside0 (Holds K3 w' b F) ∧ Aside0 (∀ u, (F u).getD (.bool false) = .bool (c u)) ∧ Aside0 (Kd.R k41 41 w' w.heap.size (fun k => k ≠ b) v7 out) ∧ Aside0 (Below w.heap.size w w'))
  case atStart => exact ⟨(l0.length : Int) - 1, fun _ => false, [], fun _ => none, rfl, by omega, by omega, ⟨by omega⟩, ⟨by rw [show ((l0.length : Int) - 1 + 1).toNat = l0.length by omega, List.drop_length]; rfl⟩, ⟨by simp⟩, HH, ⟨fun _ => rfl⟩, ⟨Kd.R_nil _ _ _ _ _⟩, HB⟩
  case round =>
    clear HB HH
    obtain ⟨i, c, out, F, rfl, hlo, hhi, HQ, HS, HL, HH, HF, HO, HB⟩ := hrel
    by_cases hlt : a1 ≤ i
    · obtain ⟨m, rfl⟩ : ∃ m : Nat, i = m := ⟨i.toNat, by omega⟩
      obtain ⟨ad, rfl, h0, h1, h2, h3, h4⟩ := at_T39 (Kd.C_below HR0.out HB.out) (m : Int) (by omega) (by omega)
      rw [Int.toNat_natCast] at h0 h1 h2 h3 h4
      have HS2 := Aside0.mk (show redoAll (l0.drop m) = redoStep (c, out) (rd_T39 l0 (m : Int)) by rw [drop_rd (by omega), redoAll_cons, show m + 1 = ((m : Int) + 1).toNat by omega, ← HS.out])
      generalize rd_T39 l0 (m : Int) = n at h0 h1 h2 h3 h4 HS2
      clear HS
      by_cases k4 : n.f0 = 4
      · have HS3 := Aside0.mk (HS2.out.trans (show redoStep (c, out) n = (fun u => if u = n.f1 then true else c u, out) by unfold redoStep; rw [if_pos (.inl k4)]))
        have q4 : (n.f0 == 4) = true := beq_iff_eq.2 k4
        clear k4 HS2
        go_wp2_with (first | (at_mapUpdate; refine wl_put (K := K3) rfl (.tmp 42) (.tmp 44) (.const (.bool true)) 66 rfl Try.underlying66 (HH.out.alloc _) n.f1 (.bool true) rfl rfl rfl ?_; intro w3 hH3 hg3))
        have HH3 := Aside0.mk hH3
        have HO3 := Aside0.mk (Kd.R_grown (Kd.R_alloc HO.out _) hg3 (fun k hk e => hk (Option.some.inj e)))
        have HB3 := Aside0.mk ((HB.out.alloc (below_size HB.out) _).grown hg3 (by have := below_size HB.out; simp; omega) (fun k e => by cases e; exact HBB.out))
        clear hH3 hg3
        go_wp2
        go_roundg (gk - 1)
        case measure => have := HQ.out; omega
        case rel => exact ⟨(m : Int) - 1, _, _, _, rfl, by omega, by omega, ⟨by have := HQ.out; omega⟩, ⟨by rw [show ((m : Int) - 1 + 1).toNat = m by omega, HS3.out]⟩, ⟨by have := HL.out; omega⟩, HH3, ⟨fun u => by show (if u = n.f1 then some (Value.bool true) else F u).getD _ = _; by_cases hu : u = n.f1 <;> simp [hu, HF.out]⟩, HO3, HB3⟩
      have q4 : (n.f0 == 4) = false := beq_eq_false_iff_ne.2 k4
      by_cases k5 : n.f0 = 5
      · have HS3 := Aside0.mk (HS2.out.trans (show redoStep (c, out) n = (fun u => if u = n.f1 then true else c u, out) by unfold redoStep; rw [if_pos (.inr k5)]))
        have q5 : (n.f0 == 5) = true := beq_iff_eq.2 k5
        clear k4 k5 HS2
        go_wp2_with (first | (at_mapUpdate; refine wl_put (K := K3) rfl (.tmp 42) (.tmp 44) (.const (.bool true)) 66 rfl Try.underlying66 (HH.out.alloc _) n.f1 (.bool true) rfl rfl rfl ?_; intro w3 hH3 hg3))
        have HH3 := Aside0.mk hH3
        have HO3 := Aside0.mk (Kd.R_grown (Kd.R_alloc HO.out _) hg3 (fun k hk e => hk (Option.some.inj e)))
        have HB3 := Aside0.mk ((HB.out.alloc (below_size HB.out) _).grown hg3 (by have := below_size HB.out; simp; omega) (fun k e => by cases e; exact HBB.out))
        clear hH3 hg3
        go_wp2
        go_roundg (gk - 1)
        case measure => have := HQ.out; omega
        case rel => exact ⟨(m : Int) - 1, _, _, _, rfl, by omega, by omega, ⟨by have := HQ.out; omega⟩, ⟨by rw [show ((m : Int) - 1 + 1).toNat = m by omega, HS3.out]⟩, ⟨by have := HL.out; omega⟩, HH3, ⟨fun u => by show (if u = n.f1 then some (Value.bool true) else F u).getD _ = _; by_cases hu : u = n.f1 <;> simp [hu, HF.out]⟩, HO3, HB3⟩
      have q5 : (n.f0 == 5) = false := beq_eq_false_iff_ne.2 k5
      by_cases k7 : n.f0 = 7
      · have HS3 := Aside0.mk (HS2.out.trans (show redoStep (c, out) n = (fun u => if u = n.f1 then false else c u, out) by unfold redoStep; rw [if_neg (by omega), if_pos (.inl k7)]))
        have q7 : (n.f0 == 7) = true := beq_iff_eq.2 k7
        clear k4 k5 k7 HS2
        go_wp2_with (first | (at_mapUpdate; refine wl_put (K := K3) rfl (.tmp 48) (.tmp 50) (.const (.bool false)) 66 rfl Try.underlying66 (HH.out.alloc _) n.f1 (.bool false) rfl rfl rfl ?_; intro w3 hH3 hg3))
        have HH3 := Aside0.mk hH3
        have HO3 := Aside0.mk (Kd.R_grown (Kd.R_alloc HO.out _) hg3 (fun k hk e => hk (Option.some.inj e)))
        have HB3 := Aside0.mk ((HB.out.alloc (below_size HB.out) _).grown hg3 (by have := below_size HB.out; simp; omega) (fun k e => by cases e; exact HBB.out))
        clear hH3 hg3
        go_wp2
        go_roundg (gk - 1)
        case measure => have := HQ.out; omega
        case rel => exact ⟨(m : Int) - 1, _, _, _, rfl, by omega, by omega, ⟨by have := HQ.out; omega⟩, ⟨by rw [show ((m : Int) - 1 + 1).toNat = m by omega, HS3.out]⟩, ⟨by have := HL.out; omega⟩, HH3, ⟨fun u => by show (if u = n.f1 then some (Value.bool false) else F u).getD _ = _; by_cases hu : u = n.f1 <;> simp [hu, HF.out]⟩, HO3, HB3⟩
      have q7 : (n.f0 == 7) = false := beq_eq_false_iff_ne.2 k7
      by_cases k1 : n.f0 = 1
      · have HS3 := Aside0.mk (HS2.out.trans (show redoStep (c, out) n = (fun u => if u = n.f1 then false else c u, out) by unfold redoStep; rw [if_neg (by omega), if_pos (.inr k1)]))
        have q1 : (n.f0 == 1) = true := beq_iff_eq.2 k1
        clear k4 k5 k7 k1 HS2
        go_wp2_with (first | (at_mapUpdate; refine wl_put (K := K3) rfl (.tmp 48) (.tmp 50) (.const (.bool false)) 66 rfl Try.underlying66 (HH.out.alloc _) n.f1 (.bool false) rfl rfl rfl ?_; intro w3 hH3 hg3))
        have HH3 := Aside0.mk hH3
        have HO3 := Aside0.mk (Kd.R_grown (Kd.R_alloc HO.out _) hg3 (fun k hk e => hk (Option.some.inj e)))
        have HB3 := Aside0.mk ((HB.out.alloc (below_size HB.out) _).grown hg3 (by have := below_size HB.out; simp; omega) (fun k e => by cases e; exact HBB.out))
        clear hH3 hg3
        go_wp2
        go_roundg (gk - 1)
        case measure => have := HQ.out; omega
        case rel => exact ⟨(m : Int) - 1, _, _, _, rfl, by omega, by omega, ⟨by have := HQ.out; omega⟩, ⟨by rw [show ((m : Int) - 1 + 1).toNat = m by omega, HS3.out]⟩, ⟨by have := HL.out; omega⟩, HH3, ⟨fun u => by show (if u = n.f1 then some (Value.bool false) else F u).getD _ = _; by_cases hu : u = n.f1 <;> simp [hu, HF.out]⟩, HO3, HB3⟩
      have q1 : (n.f0 == 1) = false := beq_eq_false_iff_ne.2 k1
      by_cases k3 : n.f0 = 3
      · have q3 : (n.f0 == 3) = true := beq_iff_eq.2 k3
        have HF1 := HF.out n.f1
        cases hc : c n.f1
        · have HS3 := Aside0.mk (HS2.out.trans (show redoStep (c, out) n = (c, out) by unfold redoStep; rw [if_neg (by omega), if_neg (by omega), if_pos k3, if_neg (show ¬ c n.f1 = true by rw [hc]; decide)]))
          rw [hc] at HF1
          have HF2 := Aside0.mk HF1
          clear k4 k5 k7 k1 k3 HS2 HF1 hc
          go_wp2_with (first | (at_lookup; refine wl_look (K := K3) rfl (.tmp 53) (.tmp 55) 66 rfl Try.underlying66 zero4 (HH.out.alloc _) n.f1 rfl rfl ?_; rw [HF2.out]))
          go_roundg (gk - 1)
          case measure => have := HQ.out; omega
          case rel => exact ⟨(m : Int) - 1, _, _, _, rfl, by omega, by omega, ⟨by have := HQ.out; omega⟩, ⟨by rw [show ((m : Int) - 1 + 1).toNat = m by omega, HS3.out]⟩, ⟨by have := HL.out; omega⟩, ⟨HH.out.alloc _⟩, HF, ⟨Kd.R_alloc HO.out _⟩, ⟨HB.out.alloc (below_size HB.out) _⟩⟩
        · have HS3 := Aside0.mk (HS2.out.trans (show redoStep (c, out) n = (c, out ++ [imgOf n]) by unfold redoStep; rw [if_neg (by omega), if_neg (by omega), if_pos k3, if_pos (show c n.f1 = true from hc)]))
          rw [hc] at HF1
          have HF2 := Aside0.mk HF1
          clear k4 k5 k7 k1 k3 HS2 HF1 hc
          have HV7 := Aside0.mk (show ∀ k, u7.ownBlock = some k → k ≠ b from HO.out.1)
          have hk := heap_alloc_new wr (.cells #[.int .i64 n.f0, .int .i64 n.f1, .string n.f2, .bool n.f3, .string n.f4] 39)
          have HO5 := Aside0.mk (Kd.R_alloc HO.out (.cells #[.int .i64 n.f0, .int .i64 n.f1, .string n.f2, .bool n.f3, .string n.f4] 39))
          have HB5 := Aside0.mk (HB.out.alloc (below_size HB.out) (.cells #[.int .i64 n.f0, .int .i64 n.f1, .string n.f2, .bool n.f3, .string n.f4] 39))
          have HH5 := Aside0.mk (HH.out.alloc (.cells #[.int .i64 n.f0, .int .i64 n.f1, .string n.f2, .bool n.f3, .string n.f4] 39))
          have hq2 := (blk_cell hk 2).trans rfl
          have hq3 := (blk_cell hk 3).trans rfl
          have hq4 := (blk_cell hk 4).trans rfl
          clear hk
          go_wp2_with (first | (at_lookup; refine wl_look (K := K3) rfl (.tmp 53) (.tmp 55) 66 rfl Try.underlying66 zero4 HH5.out n.f1 rfl rfl ?_; rw [HF2.out]; generalize wr.alloc (.cells #[.int .i64 n.f0, .int .i64 n.f1, .string n.f2, .bool n.f3, .string n.f4] 39) = w5 at HO5 HB5 HH5 hq2 hq3 hq4 ⊢) | (at_builtin; refine Kd.R_append k41 (w0 := w) w.heap.size rfl (.tmp 57) (.tmp 65) 22 41 (.agg #[(.string ⟨#[]⟩), (.bool false), (.string ⟨#[]⟩)]) 40 rfl Try.underlying22 info41 rfl (by decide) (by decide) u7 out (imgOf n) [.string n.f2, .bool n.f3, .string n.f4] (fun k => k ≠ b) (fun _ => False) rfl rfl ?aP (fun _ hk => hk.elim) ?aF ?aO ?aB ?aS ?aL ?_; (case aP => exact k41_mkM _ _ _ (imgOf n)); (case aF => exact (fun k hk => by have := HH5.out.lt; omega)); (case aO => exact HO5.out); (case aB => exact HB5.out); (case aS => exact below_size HB5.out); (case aL => have := HL.out; omega); intro v1 w3 ho hb3 hg3 _; have HO3 := Aside0.mk ho; have HB3 := Aside0.mk hb3; have HH3 := Aside0.mk (HH5.out.grown hg3 (fun e => HV7.out b e.symm rfl)); clear ho hb3 hg3))
          go_roundg (gk - 1)
          case measure => have := HQ.out; omega
          case rel => exact ⟨(m : Int) - 1, _, _, _, rfl, by omega, by omega, ⟨by have := HQ.out; omega⟩, ⟨by rw [show ((m : Int) - 1 + 1).toNat = m by omega, HS3.out]⟩, ⟨by have := HL.out; simp; omega⟩, HH3, HF, HO3, HB3⟩
      · have q3 : (n.f0 == 3) = false := beq_eq_false_iff_ne.2 k3
        have HS3 := Aside0.mk (HS2.out.trans (show redoStep (c, out) n = (c, out) by unfold redoStep; rw [if_neg (by omega), if_neg (by omega), if_neg k3]))
        clear k4 k5 k7 k1 k3 HS2
        go_wp2
        go_roundg (gk - 1)
        case measure => have := HQ.out; omega
        case rel => exact ⟨(m : Int) - 1, _, _, _, rfl, by omega, by omega, ⟨by have := HQ.out; omega⟩, ⟨by rw [show ((m : Int) - 1 + 1).toNat = m by omega, HS3.out]⟩, ⟨by have := HL.out; omega⟩, ⟨HH.out.alloc _⟩, HF, ⟨Kd.R_alloc HO.out _⟩, ⟨HB.out.alloc (below_size HB.out) _⟩⟩
    · have hi : i = a1 - 1 := by omega
      subst hi
      have HS' := Aside0.mk (show out = (redoAll (l0.drop a1.toNat)).2 by rw [show a1.toNat = (a1 - 1 + 1).toNat by omega, ← HS.out])
      clear HS
      have HV := Aside0.mk (rev_all out (by have := HL.out; omega))
      go_wp2_with (go_at_call 38; refine (api_Image.calls _ _ _ _ _ w _ HB.out HO.out HV.out).mono ?_; rintro r w3 ⟨rfl, ho, hb3, _⟩)
      go_ret2
      exact ⟨_, rfl, by rw [← HS'.out]; exact Kd.R_mono ho (fun _ _ => trivial), hb3⟩
theorem right_cases (l : List S39) : journal_right.f l = some (rightN l) ∧ (rightN l ≠ 1 → l.length ≤ 1000 ∧ l.all vld = true) := by
  unfold rightN journal_right.f journal_Wrong.f
  by_cases hv : l.length ≤ 1000 ∧ l.all vld = true
  · rw [if_pos hv]
    refine ⟨?_, fun _ => hv⟩
    simp only [Option.bind_some]
    split <;> first | rfl | (split <;> rfl)
  · rw [if_neg hv]
    refine ⟨rfl, fun h => ?_⟩
    simp at h
theorem journal_Redo.calls (A0 : Option Addr) (c0 : Nat) (l0 : List (S39)) (a1 : Int) (r1 : List (S41)) (r2 : Int) (w : World) (hr0 : Kd.C k39 w A0 l0.length l0) (hc0 : l0.length ≤ c0) (h : journal_Redo.f l0 a1 = some (r1, r2)) :
    Calls Try.prog 18 #[.slice A0 l0.length c0, .int .i64 a1] w fun e w' => ∃ v0_ : Value, e = .returned (.tuple #[v0_, .int .i64 r2]) ∧ Kd.R k41 41 w' w.heap.size (fun _ => True) v0_ r1 ∧ Below w.heap.size w w' := by
  obtain ⟨he, hle⟩ := right_cases l0
  unfold journal_Redo.f at h
  rw [he, Option.bind_some] at h
  by_cases h0 : rightN l0 = 0
  · rw [if_pos h0] at h
    rw [h0] at he
    by_cases hr : a1 < 0 ∨ (l0.length : Int) < a1
    · rw [if_pos hr] at h
      obtain ⟨rfl, rfl⟩ := Prod.mk.inj (Option.some.inj h)
      exact (redo_range A0 c0 l0 a1 w hr0 hc0 he hr).mono fun e w' ⟨h1, h2⟩ => ⟨_, h1, Kd.R_nil _ _ _ _ _, h2⟩
    · rw [if_neg hr] at h
      obtain ⟨rfl, rfl⟩ := Prod.mk.inj (Option.some.inj h)
      exact redo_yes A0 c0 l0 a1 w hr0 hc0 he (by omega) (by omega) (hle (by omega)).1
  · rw [if_neg h0] at h
    obtain ⟨rfl, rfl⟩ := Prod.mk.inj (Option.some.inj h)
    exact (redo_no _ A0 c0 l0 a1 w hr0 hc0 he h0).mono fun e w' ⟨h1, h2⟩ => ⟨_, h1, Kd.R_nil _ _ _ _ _, h2⟩
end Go.Proofs.Yteblpjnkinghoaa.J
/- The contract of the reference's applied, for every two slices of images. -/
namespace Go.Proofs.Yteblpjnkinghoaa.J
open Go.BigFrame Go.RowKit Go.Proofs.YteblpjnkinghoaaW.PrintWords Go.Proofs.YteblpjnkinghoaaW.PrintLast Go.Proofs.YteblpjnkinghoaaW.PrintMore
/-- Whether a key stands before another. -/
def kless (a b : ByteArray) : Bool := Op.bytesLess a.toList b.toList
/-- What stands behind an image's place, without one of its key. -/
def apRest (x : S41) : List S41 → List S41
  | [] => []
  | y :: r => if y.f0 = x.f0 then r else y :: r
/-- One image done to a state. -/
def apStep (cur : List S41) (x : S41) : List S41 :=
  cur.takeWhile (fun y => kless y.f0 x.f0) ++ (if x.f1 = true then [x] else []) ++ apRest x (cur.dropWhile (fun y => kless y.f0 x.f0))
def ringworkref25_applied.f (l0 : List (S41)) (l1 : List (S41)) : Option ((List (S41))) := if l0.length + l1.length ≤ 1000000 then some (l1.foldl apStep l0) else none
theorem R_lit0 (W : World) (base : Nat) (ok : Nat → Prop) (hb : base ≤ W.heap.size) (hk : ok W.heap.size) : Kd.R k41 41 (W.alloc (.cells #[] 41)) base ok (.slice (some ⟨W.heap.size, 0, none⟩) 0 0) [] :=
  ⟨fun k h => by cases h; exact hk, [], World.ownsRow_lit (base := base) (e := 41) (size := 3) W #[] 0 hb (by decide) rfl, Reps.none _ _⟩
theorem R_C41 {e w base} {ok : Nat → Prop} {A : Option Addr} {n c : Nat} {xs : List S41} (h : Kd.R k41 e w base ok (.slice A n c) xs) : Kd.C k41 w A xs.length xs ∧ n = xs.length ∧ xs.length ≤ c := by
  obtain ⟨A', c', he, hl, hc⟩ := Kd.R_reads h
  injection he with h1 h2 h3
  subst h1; subst h2; subst h3
  exact ⟨hc, rfl, hl⟩
theorem k41_KM {w : World} (w' : World) (base : Nat) (ok : Nat → Prop) (x : S41) (cs : List Value) (h : k41.K w x cs) : k41.M w' base ok x cs := by
  rw [k41_open h]; exact k41_mkM _ _ _ x
theorem tw_take (p : S41 → Bool) (l : List S41) : l.take (l.takeWhile p).length = l.takeWhile p := by
  induction l with
  | nil => rfl
  | cons a l ih =>
    rw [List.takeWhile_cons]
    split
    · simp [ih]
    · rfl
theorem tw_drop (p : S41 → Bool) (l : List S41) : l.drop (l.takeWhile p).length = l.dropWhile p := by
  induction l with
  | nil => rfl
  | cons a l ih =>
    rw [List.takeWhile_cons, List.dropWhile_cons]
    split
    · simp [ih]
    · rfl
theorem tw_at (p : S41 → Bool) : ∀ (l : List S41) (k : Nat), k < (l.takeWhile p).length → p (rd_T41 l (k : Int)) = true
  | [], k, h => by simp at h
  | a :: l, k, h => by
    rw [List.takeWhile_cons] at h
    by_cases hp : p a = true
    · rw [if_pos hp] at h
      cases k with
      | zero => exact hp
      | succ k =>
        have := tw_at p l k (by simpa using h)
        have e : rd_T41 (a :: l) ((k + 1 : Nat) : Int) = rd_T41 l (k : Int) := by unfold rd_T41; rw [Int.toNat_natCast, Int.toNat_natCast]; rfl
        rw [e]; exact this
    · rw [if_neg hp] at h; simp at h
theorem tw_end (p : S41 → Bool) : ∀ (l : List S41), (l.takeWhile p).length < l.length → p (rd_T41 l ((l.takeWhile p).length : Int)) = false
  | [], h => by simp at h
  | a :: l, h => by
    rw [List.takeWhile_cons] at h ⊢
    by_cases hp : p a = true
    · rw [if_pos hp] at h ⊢
      have := tw_end p l (by simpa using h)
      have e : rd_T41 (a :: l) (((a :: l.takeWhile p).length : Nat) : Int) = rd_T41 l ((l.takeWhile p).length : Int) := by unfold rd_T41; rw [Int.toNat_natCast, Int.toNat_natCast]; rfl
      rw [e]; exact this
    · rw [if_neg hp]
      exact Bool.eq_false_iff.2 hp
theorem tw_le (p : S41 → Bool) (l : List S41) : (l.takeWhile p).length ≤ l.length := by
  induction l with
  | nil => simp
  | cons a l ih => rw [List.takeWhile_cons]; split <;> simp; exact ih
theorem apStep_le (cur : List S41) (x : S41) : (apStep cur x).length ≤ cur.length + 1 := by
  unfold apStep
  have h1 := congrArg List.length (List.takeWhile_append_dropWhile (p := fun y => kless y.f0 x.f0) (l := cur))
  rw [List.length_append] at h1
  rw [List.length_append, List.length_append]
  have h2 : (if x.f1 = true then [x] else []).length ≤ 1 := by split <;> simp
  have h3 : (apRest x (cur.dropWhile (fun y => kless y.f0 x.f0))).length ≤ (cur.dropWhile (fun y => kless y.f0 x.f0)).length := by
    cases cur.dropWhile (fun y => kless y.f0 x.f0) with
    | nil => exact Nat.le_refl _
    | cons y r => show (if y.f0 = x.f0 then r else y :: r).length ≤ (y :: r).length; split <;> simp
  omega
set_option maxHeartbeats 4000000 in
set_option maxRecDepth 100000 in
theorem ringworkref25_applied.calls (A0 : Option Addr) (c0 : Nat) (l0 : List (S41)) (A1 : Option Addr) (c1 : Nat) (l1 : List (S41)) (r : List (S41)) (w : World) (hr0 : Kd.C k41 w A0 l0.length l0) (hc0 : l0.length ≤ c0) (hr1 : Kd.C k41 w A1 l1.length l1) (hc1 : l1.length ≤ c1) (h : ringworkref25_applied.f l0 l1 = some r) :
    Calls Try.prog 53 #[.slice A0 l0.length c0, .slice A1 l1.length c1] w fun e w' => ∃ v0_ : Value, e = .returned (v0_) ∧ Kd.R k41 41 w' w.heap.size (fun _ => True) v0_ r ∧ Below w.heap.size w w' := by
  unfold ringworkref25_applied.f at h
  by_cases hsz : l0.length + l1.length ≤ 1000000
  · rw [if_pos hsz] at h
    have HR := Aside0.mk (Option.some.inj h)
    have HR0 := Aside0.mk hr0
    have HC0 := Aside0.mk hc0
    have HR1 := Aside0.mk hr1
    have HC1 := Aside0.mk hc1
    clear h hr0 hc0 hr1 hc1
    have hl0 : l0.length ≤ 1000000 := by omega
    have hl1 : l1.length ≤ 1000000 := by omega
    go_enter Try.func53, Try.ntmps53
    go_wp2_with (first | (at_builtin; refine Kd.R_append_rows k41 (Rr := k41.K w) (w0 := w) w.heap.size rfl (.tmp 10) (.tmp 11) 22 41 (.agg #[(.string ⟨#[]⟩), (.bool false), (.string ⟨#[]⟩)]) 40 rfl Try.underlying22 info41 rfl (by decide) (by decide) _ [] l0 A0 l0.length c0 (fun _ => True) (fun _ => False) rfl rfl ?aO ?aR ?aK (fun _ hk => hk.elim) (fun _ _ => trivial) ?aB ?aS ?aL ?_; (case aO => exact R_lit0 w w.heap.size _ (Nat.le_refl _) trivial); (case aR => exact ReadsRow.imp_ HR0.out ((Below.refl _ _).alloc (Nat.le_refl _) _) (fun _ _ hp => hp)); (case aK => exact fun x cs hx => k41_KM _ _ _ x cs hx); (case aB => exact (Below.refl _ _).alloc (Nat.le_refl _) _); (case aS => simp); (case aL => simp; omega); intro v1 w1 ho hb _ _; rw [List.nil_append] at ho))
    have HO := Aside0.mk ho
    have HB := Aside0.mk hb
    clear ho hb
    go_loopg [5, 6] (l1.length + 1) (fun kq v5 v6 w' => ∃ (i : Nat) (cur : List S41), v6 = .int .i64 i ∧ i ≤ l1.length ∧ Aside0 (kq + i = l1.length + 1) ∧ Aside0 ((l1.drop i).foldl apStep cur = r) ∧ Aside0 (cur.length ≤ l0.length + i) ∧ Aside0 (Kd.R k41 41 w' w.heap.size (fun _ => True) v5 cur) ∧ Aside0 (Below w.heap.size w w'))
    case atStart => exact ⟨0, l0, rfl, by omega, ⟨by omega⟩, ⟨by simpa using HR.out⟩, ⟨by omega⟩, HO, HB⟩
    case round =>
      clear HO HB HR
      obtain ⟨i, cur, rfl, hi, HQ, HS, HL, HO, HB⟩ := hrel
      by_cases hlt : i < l1.length
      · obtain ⟨a1, rfl, h0, h1, h2⟩ := at_T41 (Kd.C_below HR1.out HB.out) (i : Int) (by omega) (by omega)
        clear h0 h1 h2
        have HS2 := Aside0.mk (show (l1.drop (i + 1)).foldl apStep (apStep cur (rd_T41 l1 (i : Int))) = r by rw [← HS.out, drop_rd41 hlt]; rfl)
        have HX := Aside0.mk (show ∀ W, Below w.heap.size w W → W.cell? (a1.add (i * 3)) = some (.string (rd_T41 l1 (i : Int)).f0) ∧ W.cell? ⟨(a1.add (i * 3)).block, (a1.add (i * 3)).off + 1, none⟩ = some (.bool (rd_T41 l1 (i : Int)).f1) ∧ W.cell? ⟨(a1.add (i * 3)).block, (a1.add (i * 3)).off + 2, none⟩ = some (.string (rd_T41 l1 (i : Int)).f2) from fun W hW => by
          obtain ⟨a1', e, h0, h1, h2⟩ := at_T41 (Kd.C_below HR1.out hW) (i : Int) (by omega) (by omega)
          cases e
          rw [Int.toNat_natCast] at h0 h1 h2
          exact ⟨h0, h1, h2⟩)
        generalize rd_T41 l1 (i : Int) = x at HS2 HX
        clear HS
        obtain ⟨A, c, hv5, hlc, hC⟩ := Kd.R_reads HO.out
        subst hv5
        clear hC
        obtain ⟨kp, hkp⟩ : ∃ kp, kp = (cur.takeWhile (fun y => kless y.f0 x.f0)).length := ⟨_, rfl⟩
        have hkl : kp ≤ cur.length := by rw [hkp]; exact tw_le _ _
        have HKP := Aside0.mk hkp
        clear hkp
        go_wp2
        obtain ⟨gk0, hgk0⟩ : ∃ g, g = gk := ⟨_, rfl⟩
        obtain ⟨w0, hw0⟩ : ∃ W, W = wr := ⟨_, rfl⟩
        clear hgk0 hw0
        have hkb : cur.length ≤ 2000000 := by have := HL.out; omega
        have HAPP := Aside0.mk (show apStep cur x = cur.take kp ++ (if x.f1 = true then [x] else []) ++ apRest x (cur.drop kp) by unfold apStep; rw [HKP.out, tw_take, tw_drop])
        obtain ⟨i0, hi0, _, hsz0, _⟩ := info_parts info41
        have hsz0 : i0.size = 3 := hsz0
        have hcut := cut_from (P := Try.prog) 22 41 .i64 Try.underlying22 hi0 3 hsz0 A cur.length c (kp : Int) (by omega) (by omega)
        have hct := cut_to (P := Try.prog) 22 41 .i64 Try.underlying22 hi0 A cur.length c (kp : Int) (by omega) (by omega) hlc
        have hln : cur.length - kp = (cur.drop kp).length := by simp
        rw [Int.toNat_natCast] at hct
        rw [Int.toNat_natCast, hln] at hcut
        have HRS0 := Aside0.mk (show ∀ W, Kd.C k41 W A cur.length cur → Kd.C k41 W (if c = kp then A else A.map (·.add (kp * 3))) (cur.drop kp).length (cur.drop kp) from fun W hW => Kd.C_drop (m := kp) hW hkl hlc)
        have HSL := Aside0.mk (show (cur.drop kp).length ≤ cur.length by simp)
        have HT6 := Aside0.mk (show ∀ W, Kd.C k41 W A cur.length cur → Kd.C k41 W A kp (cur.take kp) from fun W hW => by have := Kd.C_take (m := kp) hW hkl; rwa [List.length_take, Nat.min_eq_left hkl] at this)
        generalize hB0 : (if c = kp then A else A.map (·.add (kp * 3))) = B0 at hcut HRS0
        generalize hsf : cur.drop kp = sf at hcut HRS0 HAPP HSL
        obtain ⟨cB0, hcB0⟩ : ∃ z, z = c - kp := ⟨_, rfl⟩
        rw [← hcB0] at hcut
        obtain ⟨ns, hns⟩ : ∃ z, z = sf.length := ⟨_, rfl⟩
        rw [← hns] at hcut
        have HNS := Aside0.mk hns
        clear hns
        have HLE := Aside0.mk (show sf.length ≤ cB0 by rw [hcB0, ← hsf, List.length_drop]; omega)
        have HSF := Aside0.mk hsf
        have HSN := Aside0.mk (show sf.length = cur.length - kp by rw [← hsf, List.length_drop])
        clear hcB0 hsf hB0 hln
        have hbl : ∀ (s t : ByteArray), (s.toList == t.toList) = decide (s = t) := fun s t => by
          rw [Bool.eq_iff_iff]
          simp only [beq_iff_eq, decide_eq_true_eq]
          exact ⟨fun h => by rw [ByteArray.toList_eq, ByteArray.toList_eq] at h; cases s; cases t; simpa using h, fun h => by rw [h]⟩
        go_loopg [7] (kp + 1) (fun kq v7 w' => ∃ k : Nat, v7 = .int .i64 k ∧ k ≤ kp ∧ Aside0 (kq + k = kp + 1) ∧ Aside0 (Kd.R k41 41 w' w.heap.size (fun _ => True) (.slice A cur.length c) cur) ∧ Aside0 (Below w.heap.size w w'))
        case atStart => exact ⟨0, rfl, by omega, ⟨by omega⟩, HO, HB⟩
        case round =>
          clear HO HB
          obtain ⟨k, rfl, hk, HQ2, HO, HB⟩ := hrel
          have hx0 := (HX.out _ HB.out).1
          have q0 := Past.cell hx0
          by_cases hkl2 : k < cur.length
          · have d1 : decide ((k : Int) < (cur.length : Int)) = true := decide_eq_true (by omega)
            obtain ⟨ad, rfl, g0, g1, g2⟩ := at_T41 (R_C41 HO.out).1 (k : Int) (by omega) (by omega)
            rw [Int.toNat_natCast] at g0 g1 g2
            have p0 := Past.cell g0
            clear g1 g2 g0
            by_cases hkk : k < kp
            · have hlss : Op.bytesLess (rd_T41 cur (k : Int)).f0.toList x.f0.toList = true := tw_at (fun y => kless y.f0 x.f0) cur k (by rw [← HKP.out]; exact hkk)
              generalize rd_T41 cur (k : Int) = y at p0 hlss
              clear hx0 hcut hct
              go_wp2
              refine wp_region_past (by kernel_rfl) (by kernel_rfl) ?_
              repeat (go_big_quiet_step (fail))
              refine wpQuiet_nil ?_
              rintro _ ⟨p, rfl⟩
              go_wp2
              go_roundg (kp - k)
              case measure => have := HQ2.out; omega
              case rel => exact ⟨k + 1, by go_num, by omega, ⟨by omega⟩, ⟨Kd.R_below HO.out p.h⟩, ⟨below_step HB.out p.h⟩⟩
            · have hke : kp = k := by omega
              subst hke
              have hlss : Op.bytesLess (rd_T41 cur (kp : Int)).f0.toList x.f0.toList = false := by
                have := tw_end (fun y => kless y.f0 x.f0) cur (by rw [← HKP.out]; exact hkl2)
                rw [← HKP.out] at this
                exact this
              generalize rd_T41 cur (kp : Int) = y at p0 hlss
              go_wp2
              refine wp_region_past (by kernel_rfl) (by kernel_rfl) ?_
              repeat (go_big_quiet_step (fail))
              refine wpQuiet_nil ?_
              rintro _ ⟨p, rfl⟩
              have HO5 := Aside0.mk (Kd.R_below HO.out p.h)
              have HB5 := Aside0.mk (below_step HB.out p.h)
              generalize p.W = w5 at HO5 HB5 ⊢
              clear HO HB q0 hx0
              have HO := HO5
              have HB := HB5
              clear HO5 HB5
              go_wp2
              clear hcut
              obtain ⟨y', sf', rfl⟩ : ∃ y' sf', sf = y' :: sf' := by
                cases sf with
                | nil => have := HSN.out; simp at this; omega
                | cons y' sf' => exact ⟨y', sf', rfl⟩
              have C6 := HRS0.out _ (R_C41 HO.out).1
              obtain ⟨bd, rfl, g0, g1, g2⟩ := at_T41 C6 (0 : Int) (by omega) (by simp)
              have g0 : w5.cell? (bd.add 0) = some (.string y'.f0) := g0
              have p1 := Past.cell g0
              have p1' := Past.cell (show w5.cell? bd = some (.string y'.f0) from by rw [← g0]; cases bd; rfl)
              have q0 := Past.cell (HX.out _ HB.out).1
              have hx0 := (HX.out _ HB.out).1
              have d2 : decide ((0 : Int) < (ns : Int)) = true := decide_eq_true (by rw [HNS.out]; simp)
              have d3 : decide (0 < ns) = true := decide_eq_true (by rw [HNS.out]; simp)
              have hns1 : (1 : Int) ≤ (ns : Int) := by rw [HNS.out]; simp; omega
              clear g0 g1 g2 C6
              by_cases he : y'.f0 = x.f0
              · have e1 : (y'.f0.toList == x.f0.toList) = true := by rw [hbl]; exact decide_eq_true he
                have hcut2 := cut_from (P := Try.prog) 22 41 .i64 Try.underlying22 hi0 3 hsz0 (some bd) ns cB0 (1 : Int) (by omega) hns1
                have HRS := Aside0.mk (show ∀ W, Kd.C k41 W (some ad) cur.length cur → Kd.C k41 W (if cB0 = 1 then some bd else (some bd).map (·.add (1 * 3))) sf'.length sf' from fun W hW => Kd.C_drop (m := 1) (HRS0.out W hW) (by simp) HLE.out)
                have HRSE := Aside0.mk (show sf' = apRest x (y' :: sf') by show _ = (if y'.f0 = x.f0 then sf' else y' :: sf'); rw [if_pos he])
                rw [show ((1 : Int).toNat) = 1 from rfl, show ns - 1 = sf'.length by rw [HNS.out]; rfl] at hcut2
                change ∀ W : World, (Instr.slice 22 (.slice (some bd) ns cB0) (some (.int .i64 1)) none none).run Try.prog W = .ok (.slice (if cB0 = 1 then some bd else (some bd).map (·.add (1 * 3))) sf'.length (cB0 - 1)) W at hcut2
                generalize (if cB0 = 1 then some bd else (some bd).map (·.add (1 * 3))) = B at hcut2 HRS
                obtain ⟨cB, hcB⟩ : ∃ z, z = cB0 - 1 := ⟨_, rfl⟩
                rw [← hcB] at hcut2
                obtain ⟨rs, hrs⟩ : ∃ rs, rs = sf' := ⟨_, rfl⟩
                subst hrs
                have HRL := Aside0.mk (show rs.length ≤ cur.length by have := HSL.out; simp at this; omega)
                clear hcB he hbl hlss p0
                go_wp2
                refine wp_region_past (by kernel_rfl) (by kernel_rfl) ?_
                repeat (go_big_quiet_step (fail))
                refine wpQuiet_nil ?_
                rintro _ ⟨p, rfl⟩
                have HO6 := Aside0.mk (Kd.R_below HO.out p.h)
                have HB6 := Aside0.mk (below_step HB.out p.h)
                generalize p.W = w6 at HO6 HB6 ⊢
                clear HO HB q0 hx0
                have HT6 := Aside0.mk (HT6.out _ (R_C41 HO6.out).1)
                have HR5 := Aside0.mk (show Kd.R k41 41 w6 w.heap.size (fun k => k < w6.heap.size) (.slice (some ad) cur.length c) cur from Kd.R_mono (Kd.R_bound HO6.out) (fun k hk => hk.2.2.1))
                clear p1 p1' d1 d2 d3 e1 hns1
                obtain ⟨x0, x1, x2⟩ := x
                cases x1
                · have HAP := Aside0.mk (show apStep cur ⟨x0, false, x2⟩ = cur.take kp ++ rs by rw [HAPP.out, ← HRSE.out]; simp)
                  clear HAPP HRSE
                  go_wp2_with (first | (at_builtin; refine Kd.R_append_rows k41 (Rr := k41.K (w6.alloc (.cells #[] 41))) (w0 := w) w.heap.size rfl (.tmp 58) (.tmp 61) 22 41 (.agg #[(.string ⟨#[]⟩), (.bool false), (.string ⟨#[]⟩)]) 40 rfl Try.underlying22 info41 rfl (by decide) (by decide) _ [] (cur.take kp) (some ad) kp c (fun k => w6.heap.size ≤ k) (fun _ => False) rfl rfl ?aO ?aR ?aK (fun _ hk => hk.elim) ?aF ?aB ?aS ?aL ?_; (case aO => exact R_lit0 w6 w.heap.size _ (below_size HB6.out) (Nat.le_refl _)); (case aR => exact Kd.C_alloc HT6.out _); (case aK => exact fun x cs hx => k41_KM _ _ _ x cs hx); (case aF => exact fun k hk => Nat.le_trans (by simp) hk); (case aB => exact HB6.out.alloc (below_size HB6.out) _); (case aS => have := below_size HB6.out; simp <;> omega); (case aL => have := HL.out; simp <;> omega); intro v7 w7 ho hb hg _; rw [List.nil_append] at ho; have HO7 := Aside0.mk ho; have HB7 := Aside0.mk hb; have HR57 := Aside0.mk (Kd.R_grown (Kd.R_alloc HR5.out _) hg (fun k hk e => by have hk' : k < w6.heap.size := hk; have e' : k = w6.heap.size := Option.some.inj e; omega)); have hs7 : w6.heap.size ≤ w7.heap.size := (by have h1 : (w6.alloc (.cells #[] 41)).heap.size ≤ w7.heap.size := hg.size; exact Nat.le_trans (by simp) h1); have hx := HX.out _ hb; have hx0 := hx.1; have hx1 := hx.2.1; have hx2 := hx.2.2; clear ho hb hg hx) | (at_builtin; refine Kd.R_append_rows k41 (Rr := k41.K w7) (w0 := w) w.heap.size rfl (.tmp 75) (.tmp 76) 22 41 (.agg #[(.string ⟨#[]⟩), (.bool false), (.string ⟨#[]⟩)]) 40 rfl Try.underlying22 info41 rfl (by decide) (by decide) v7 (cur.take kp) rs B rs.length cB (fun k => w6.heap.size ≤ k) (fun _ => False) rfl rfl ?aO ?aR ?aK (fun _ hk => hk.elim) ?aF ?aB ?aS ?aL ?_; (case aO => exact HO7.out); (case aR => exact HRS.out _ (R_C41 HR57.out).1); (case aK => exact fun x cs hx => k41_KM _ _ _ x cs hx); (case aF => exact fun k hk => Nat.le_trans hs7 hk); (case aB => exact HB7.out); (case aS => exact below_size HB7.out); (case aL => have := HL.out; have := HRL.out; simp <;> omega); intro v9 w9 ho hb _ _; have HO9 := Aside0.mk ho; have HB9 := Aside0.mk hb; clear ho hb))
                  go_roundg (l1.length - i)
                  case measure => have := HQ.out; omega
                  case rel => exact ⟨i + 1, _, by go_num, by omega, ⟨by have := HQ.out; omega⟩, HS2, ⟨by have := apStep_le cur ⟨x0, false, x2⟩; have := HL.out; omega⟩, ⟨by rw [HAP.out]; exact Kd.R_mono HO9.out (fun _ _ => trivial)⟩, HB9⟩
                · have HAP := Aside0.mk (show apStep cur ⟨x0, true, x2⟩ = cur.take kp ++ [⟨x0, true, x2⟩] ++ rs by rw [HAPP.out, ← HRSE.out]; simp)
                  clear HAPP HRSE
                  go_wp2_with (first | (at_builtin; refine Kd.R_append_rows k41 (Rr := k41.K (w6.alloc (.cells #[] 41))) (w0 := w) w.heap.size rfl (.tmp 58) (.tmp 61) 22 41 (.agg #[(.string ⟨#[]⟩), (.bool false), (.string ⟨#[]⟩)]) 40 rfl Try.underlying22 info41 rfl (by decide) (by decide) _ [] (cur.take kp) (some ad) kp c (fun k => w6.heap.size ≤ k) (fun _ => False) rfl rfl ?aO ?aR ?aK (fun _ hk => hk.elim) ?aF ?aB ?aS ?aL ?_; (case aO => exact R_lit0 w6 w.heap.size _ (below_size HB6.out) (Nat.le_refl _)); (case aR => exact Kd.C_alloc HT6.out _); (case aK => exact fun x cs hx => k41_KM _ _ _ x cs hx); (case aF => exact fun k hk => Nat.le_trans (by simp) hk); (case aB => exact HB6.out.alloc (below_size HB6.out) _); (case aS => have := below_size HB6.out; simp <;> omega); (case aL => have := HL.out; simp <;> omega); intro v7 w7 ho hb hg _; rw [List.nil_append] at ho; have HO7 := Aside0.mk ho; have HB7 := Aside0.mk hb; have HR57 := Aside0.mk (Kd.R_grown (Kd.R_alloc HR5.out _) hg (fun k hk e => by have hk' : k < w6.heap.size := hk; have e' : k = w6.heap.size := Option.some.inj e; omega)); have hs7 : w6.heap.size ≤ w7.heap.size := (by have h1 : (w6.alloc (.cells #[] 41)).heap.size ≤ w7.heap.size := hg.size; exact Nat.le_trans (by simp) h1); have hx := HX.out _ hb; have hx0 := hx.1; have hx1 := hx.2.1; have hx2 := hx.2.2; clear ho hb hg hx) | (at_builtin; refine Kd.R_append k41 (w0 := w) w.heap.size rfl (.tmp 68) (.tmp 73) 22 41 (.agg #[(.string ⟨#[]⟩), (.bool false), (.string ⟨#[]⟩)]) 40 rfl Try.underlying22 info41 rfl (by decide) (by decide) v7 (cur.take kp) ⟨x0, true, x2⟩ [.string x0, .bool true, .string x2] (fun k => w6.heap.size ≤ k) (fun _ => False) rfl rfl ?aP (fun _ hk => hk.elim) ?aF ?aO ?aB ?aS ?aL ?_; (case aP => exact k41_mkM _ _ _ ⟨x0, true, x2⟩); (case aF => exact (fun k hk => Nat.le_trans hs7 hk)); (case aO => exact HO7.out); (case aB => exact HB7.out); (case aS => exact below_size HB7.out); (case aL => have := HL.out; simp <;> omega); intro v8 w8 ho hb hg _; have HO8 := Aside0.mk ho; have HB8 := Aside0.mk hb; have HR58 := Aside0.mk (Kd.R_grown HR57.out hg (fun k hk e => by have h1 : w6.heap.size ≤ k := HO7.out.1 k e.symm; have h2 : k < w6.heap.size := hk; omega)); have hs8 : w6.heap.size ≤ w8.heap.size := (by have := hg.size; omega); clear ho hb hg) | (at_builtin; refine Kd.R_append_rows k41 (Rr := k41.K w8) (w0 := w) w.heap.size rfl (.tmp 75) (.tmp 76) 22 41 (.agg #[(.string ⟨#[]⟩), (.bool false), (.string ⟨#[]⟩)]) 40 rfl Try.underlying22 info41 rfl (by decide) (by decide) v8 (cur.take kp ++ [⟨x0, true, x2⟩]) rs B rs.length cB (fun k => w6.heap.size ≤ k) (fun _ => False) rfl rfl ?aO ?aR ?aK (fun _ hk => hk.elim) ?aF ?aB ?aS ?aL ?_; (case aO => exact HO8.out); (case aR => exact HRS.out _ (R_C41 HR58.out).1); (case aK => exact fun x cs hx => k41_KM _ _ _ x cs hx); (case aF => exact fun k hk => Nat.le_trans hs8 hk); (case aB => exact HB8.out); (case aS => exact below_size HB8.out); (case aL => have := HL.out; have := HRL.out; simp <;> omega); intro v9 w9 ho hb _ _; have HO9 := Aside0.mk ho; have HB9 := Aside0.mk hb; clear ho hb))
                  go_roundg (l1.length - i)
                  case measure => have := HQ.out; omega
                  case rel => exact ⟨i + 1, _, by go_num, by omega, ⟨by have := HQ.out; omega⟩, HS2, ⟨by have := apStep_le cur ⟨x0, true, x2⟩; have := HL.out; omega⟩, ⟨by rw [HAP.out]; exact Kd.R_mono HO9.out (fun _ _ => trivial)⟩, HB9⟩
              · have e1 : (y'.f0.toList == x.f0.toList) = false := by rw [hbl]; exact decide_eq_false he
                have HRS := HRS0
                have HRSE := Aside0.mk (show (y' :: sf') = apRest x (y' :: sf') by show _ = (if y'.f0 = x.f0 then sf' else y' :: sf'); rw [if_neg he])
                have HRL := HSL
                obtain ⟨B, hB⟩ : ∃ B, B = some bd := ⟨_, rfl⟩
                obtain ⟨cB, hcB⟩ : ∃ z, z = cB0 := ⟨_, rfl⟩
                subst hcB
                clear he hbl hlss p0
                go_wp2
                refine wp_region_past (by kernel_rfl) (by kernel_rfl) ?_
                repeat (go_big_quiet_step (fail))
                refine wpQuiet_nil ?_
                rintro _ ⟨p, rfl⟩
                have HO6 := Aside0.mk (Kd.R_below HO.out p.h)
                have HB6 := Aside0.mk (below_step HB.out p.h)
                generalize p.W = w6 at HO6 HB6 ⊢
                clear HO HB q0 hx0
                have HT6 := Aside0.mk (HT6.out _ (R_C41 HO6.out).1)
                have HR5 := Aside0.mk (show Kd.R k41 41 w6 w.heap.size (fun k => k < w6.heap.size) (.slice (some ad) cur.length c) cur from Kd.R_mono (Kd.R_bound HO6.out) (fun k hk => hk.2.2.1))
                clear p1 p1' d1 d2 d3 e1 hns1
                rw [← hB] at HRS ⊢
                have hns := HNS.out
                clear hB HRS0 HNS
                subst hns
                generalize y' :: sf' = rs at *
                obtain ⟨x0, x1, x2⟩ := x
                cases x1
                · have HAP := Aside0.mk (show apStep cur ⟨x0, false, x2⟩ = cur.take kp ++ rs by rw [HAPP.out, ← HRSE.out]; simp)
                  clear HAPP HRSE
                  go_wp2_with (first | (at_builtin; refine Kd.R_append_rows k41 (Rr := k41.K (w6.alloc (.cells #[] 41))) (w0 := w) w.heap.size rfl (.tmp 58) (.tmp 61) 22 41 (.agg #[(.string ⟨#[]⟩), (.bool false), (.string ⟨#[]⟩)]) 40 rfl Try.underlying22 info41 rfl (by decide) (by decide) _ [] (cur.take kp) (some ad) kp c (fun k => w6.heap.size ≤ k) (fun _ => False) rfl rfl ?aO ?aR ?aK (fun _ hk => hk.elim) ?aF ?aB ?aS ?aL ?_; (case aO => exact R_lit0 w6 w.heap.size _ (below_size HB6.out) (Nat.le_refl _)); (case aR => exact Kd.C_alloc HT6.out _); (case aK => exact fun x cs hx => k41_KM _ _ _ x cs hx); (case aF => exact fun k hk => Nat.le_trans (by simp) hk); (case aB => exact HB6.out.alloc (below_size HB6.out) _); (case aS => have := below_size HB6.out; simp <;> omega); (case aL => have := HL.out; simp <;> omega); intro v7 w7 ho hb hg _; rw [List.nil_append] at ho; have HO7 := Aside0.mk ho; have HB7 := Aside0.mk hb; have HR57 := Aside0.mk (Kd.R_grown (Kd.R_alloc HR5.out _) hg (fun k hk e => by have hk' : k < w6.heap.size := hk; have e' : k = w6.heap.size := Option.some.inj e; omega)); have hs7 : w6.heap.size ≤ w7.heap.size := (by have h1 : (w6.alloc (.cells #[] 41)).heap.size ≤ w7.heap.size := hg.size; exact Nat.le_trans (by simp) h1); have hx := HX.out _ hb; have hx0 := hx.1; have hx1 := hx.2.1; have hx2 := hx.2.2; clear ho hb hg hx) | (at_builtin; refine Kd.R_append_rows k41 (Rr := k41.K w7) (w0 := w) w.heap.size rfl (.tmp 75) (.tmp 76) 22 41 (.agg #[(.string ⟨#[]⟩), (.bool false), (.string ⟨#[]⟩)]) 40 rfl Try.underlying22 info41 rfl (by decide) (by decide) v7 (cur.take kp) rs B rs.length cB (fun k => w6.heap.size ≤ k) (fun _ => False) rfl rfl ?aO ?aR ?aK (fun _ hk => hk.elim) ?aF ?aB ?aS ?aL ?_; (case aO => exact HO7.out); (case aR => exact HRS.out _ (R_C41 HR57.out).1); (case aK => exact fun x cs hx => k41_KM _ _ _ x cs hx); (case aF => exact fun k hk => Nat.le_trans hs7 hk); (case aB => exact HB7.out); (case aS => exact below_size HB7.out); (case aL => have := HL.out; have := HRL.out; simp <;> omega); intro v9 w9 ho hb _ _; have HO9 := Aside0.mk ho; have HB9 := Aside0.mk hb; clear ho hb))
                  go_roundg (l1.length - i)
                  case measure => have := HQ.out; omega
                  case rel => exact ⟨i + 1, _, by go_num, by omega, ⟨by have := HQ.out; omega⟩, HS2, ⟨by have := apStep_le cur ⟨x0, false, x2⟩; have := HL.out; omega⟩, ⟨by rw [HAP.out]; exact Kd.R_mono HO9.out (fun _ _ => trivial)⟩, HB9⟩
                · have HAP := Aside0.mk (show apStep cur ⟨x0, true, x2⟩ = cur.take kp ++ [⟨x0, true, x2⟩] ++ rs by rw [HAPP.out, ← HRSE.out]; simp)
                  clear HAPP HRSE
                  go_wp2_with (first | (at_builtin; refine Kd.R_append_rows k41 (Rr := k41.K (w6.alloc (.cells #[] 41))) (w0 := w) w.heap.size rfl (.tmp 58) (.tmp 61) 22 41 (.agg #[(.string ⟨#[]⟩), (.bool false), (.string ⟨#[]⟩)]) 40 rfl Try.underlying22 info41 rfl (by decide) (by decide) _ [] (cur.take kp) (some ad) kp c (fun k => w6.heap.size ≤ k) (fun _ => False) rfl rfl ?aO ?aR ?aK (fun _ hk => hk.elim) ?aF ?aB ?aS ?aL ?_; (case aO => exact R_lit0 w6 w.heap.size _ (below_size HB6.out) (Nat.le_refl _)); (case aR => exact Kd.C_alloc HT6.out _); (case aK => exact fun x cs hx => k41_KM _ _ _ x cs hx); (case aF => exact fun k hk => Nat.le_trans (by simp) hk); (case aB => exact HB6.out.alloc (below_size HB6.out) _); (case aS => have := below_size HB6.out; simp <;> omega); (case aL => have := HL.out; simp <;> omega); intro v7 w7 ho hb hg _; rw [List.nil_append] at ho; have HO7 := Aside0.mk ho; have HB7 := Aside0.mk hb; have HR57 := Aside0.mk (Kd.R_grown (Kd.R_alloc HR5.out _) hg (fun k hk e => by have hk' : k < w6.heap.size := hk; have e' : k = w6.heap.size := Option.some.inj e; omega)); have hs7 : w6.heap.size ≤ w7.heap.size := (by have h1 : (w6.alloc (.cells #[] 41)).heap.size ≤ w7.heap.size := hg.size; exact Nat.le_trans (by simp) h1); have hx := HX.out _ hb; have hx0 := hx.1; have hx1 := hx.2.1; have hx2 := hx.2.2; clear ho hb hg hx) | (at_builtin; refine Kd.R_append k41 (w0 := w) w.heap.size rfl (.tmp 68) (.tmp 73) 22 41 (.agg #[(.string ⟨#[]⟩), (.bool false), (.string ⟨#[]⟩)]) 40 rfl Try.underlying22 info41 rfl (by decide) (by decide) v7 (cur.take kp) ⟨x0, true, x2⟩ [.string x0, .bool true, .string x2] (fun k => w6.heap.size ≤ k) (fun _ => False) rfl rfl ?aP (fun _ hk => hk.elim) ?aF ?aO ?aB ?aS ?aL ?_; (case aP => exact k41_mkM _ _ _ ⟨x0, true, x2⟩); (case aF => exact (fun k hk => Nat.le_trans hs7 hk)); (case aO => exact HO7.out); (case aB => exact HB7.out); (case aS => exact below_size HB7.out); (case aL => have := HL.out; simp <;> omega); intro v8 w8 ho hb hg _; have HO8 := Aside0.mk ho; have HB8 := Aside0.mk hb; have HR58 := Aside0.mk (Kd.R_grown HR57.out hg (fun k hk e => by have h1 : w6.heap.size ≤ k := HO7.out.1 k e.symm; have h2 : k < w6.heap.size := hk; omega)); have hs8 : w6.heap.size ≤ w8.heap.size := (by have := hg.size; omega); clear ho hb hg) | (at_builtin; refine Kd.R_append_rows k41 (Rr := k41.K w8) (w0 := w) w.heap.size rfl (.tmp 75) (.tmp 76) 22 41 (.agg #[(.string ⟨#[]⟩), (.bool false), (.string ⟨#[]⟩)]) 40 rfl Try.underlying22 info41 rfl (by decide) (by decide) v8 (cur.take kp ++ [⟨x0, true, x2⟩]) rs B rs.length cB (fun k => w6.heap.size ≤ k) (fun _ => False) rfl rfl ?aO ?aR ?aK (fun _ hk => hk.elim) ?aF ?aB ?aS ?aL ?_; (case aO => exact HO8.out); (case aR => exact HRS.out _ (R_C41 HR58.out).1); (case aK => exact fun x cs hx => k41_KM _ _ _ x cs hx); (case aF => exact fun k hk => Nat.le_trans hs8 hk); (case aB => exact HB8.out); (case aS => exact below_size HB8.out); (case aL => have := HL.out; have := HRL.out; simp <;> omega); intro v9 w9 ho hb _ _; have HO9 := Aside0.mk ho; have HB9 := Aside0.mk hb; clear ho hb))
                  go_roundg (l1.length - i)
                  case measure => have := HQ.out; omega
                  case rel => exact ⟨i + 1, _, by go_num, by omega, ⟨by have := HQ.out; omega⟩, HS2, ⟨by have := apStep_le cur ⟨x0, true, x2⟩; have := HL.out; omega⟩, ⟨by rw [HAP.out]; exact Kd.R_mono HO9.out (fun _ _ => trivial)⟩, HB9⟩
          · have hke : kp = k := by omega
            subst hke
            have d1 : decide ((kp : Int) < (cur.length : Int)) = false := decide_eq_false (by omega)
            go_wp2
            refine wp_region_past (by kernel_rfl) (by kernel_rfl) ?_
            repeat (go_big_quiet_step (fail))
            refine wpQuiet_nil ?_
            rintro _ ⟨p, rfl⟩
            have HO5 := Aside0.mk (Kd.R_below HO.out p.h)
            have HB5 := Aside0.mk (below_step HB.out p.h)
            generalize p.W = w5 at HO5 HB5 ⊢
            clear HO HB q0 hx0
            have HO := HO5
            have HB := HB5
            clear HO5 HB5
            go_wp2
            have q0 := Past.cell (HX.out _ HB.out).1
            have hx0 := (HX.out _ HB.out).1
            have hsn : sf.length = 0 := by have := HSN.out; omega
            have d2 : decide ((0 : Int) < (ns : Int)) = false := decide_eq_false (by rw [HNS.out]; omega)
            have d3 : decide (0 < ns) = false := decide_eq_false (by rw [HNS.out]; omega)
            have HRS := HRS0
            have HRSE := Aside0.mk (show sf = apRest x sf by rw [List.eq_nil_of_length_eq_zero hsn]; rfl)
            have HRL := HSL
            obtain ⟨B, hB⟩ : ∃ B, B = B0 := ⟨_, rfl⟩
            subst hB
            obtain ⟨cB, hcB⟩ : ∃ z, z = cB0 := ⟨_, rfl⟩
            subst hcB
            obtain ⟨rs, hrs⟩ : ∃ rs, rs = sf := ⟨_, rfl⟩
            subst hrs
            clear hsn hbl
            go_wp2
            refine wp_region_past (by kernel_rfl) (by kernel_rfl) ?_
            repeat (go_big_quiet_step (fail))
            refine wpQuiet_nil ?_
            rintro _ ⟨p, rfl⟩
            have HO6 := Aside0.mk (Kd.R_below HO.out p.h)
            have HB6 := Aside0.mk (below_step HB.out p.h)
            generalize p.W = w6 at HO6 HB6 ⊢
            clear HO HB q0 hx0
            have HT6 := Aside0.mk (HT6.out _ (R_C41 HO6.out).1)
            have HR5 := Aside0.mk (show Kd.R k41 41 w6 w.heap.size (fun k => k < w6.heap.size) (.slice A cur.length c) cur from Kd.R_mono (Kd.R_bound HO6.out) (fun k hk => hk.2.2.1))
            clear d1 d2 d3
            have hns := HNS.out
            clear HNS
            subst hns
            obtain ⟨x0, x1, x2⟩ := x
            cases x1
            · have HAP := Aside0.mk (show apStep cur ⟨x0, false, x2⟩ = cur.take kp ++ rs by rw [HAPP.out, ← HRSE.out]; simp)
              clear HAPP HRSE
              go_wp2_with (first | (at_builtin; refine Kd.R_append_rows k41 (Rr := k41.K (w6.alloc (.cells #[] 41))) (w0 := w) w.heap.size rfl (.tmp 58) (.tmp 61) 22 41 (.agg #[(.string ⟨#[]⟩), (.bool false), (.string ⟨#[]⟩)]) 40 rfl Try.underlying22 info41 rfl (by decide) (by decide) _ [] (cur.take kp) A kp c (fun k => w6.heap.size ≤ k) (fun _ => False) rfl rfl ?aO ?aR ?aK (fun _ hk => hk.elim) ?aF ?aB ?aS ?aL ?_; (case aO => exact R_lit0 w6 w.heap.size _ (below_size HB6.out) (Nat.le_refl _)); (case aR => exact Kd.C_alloc HT6.out _); (case aK => exact fun x cs hx => k41_KM _ _ _ x cs hx); (case aF => exact fun k hk => Nat.le_trans (by simp) hk); (case aB => exact HB6.out.alloc (below_size HB6.out) _); (case aS => have := below_size HB6.out; simp <;> omega); (case aL => have := HL.out; simp <;> omega); intro v7 w7 ho hb hg _; rw [List.nil_append] at ho; have HO7 := Aside0.mk ho; have HB7 := Aside0.mk hb; have HR57 := Aside0.mk (Kd.R_grown (Kd.R_alloc HR5.out _) hg (fun k hk e => by have hk' : k < w6.heap.size := hk; have e' : k = w6.heap.size := Option.some.inj e; omega)); have hs7 : w6.heap.size ≤ w7.heap.size := (by have h1 : (w6.alloc (.cells #[] 41)).heap.size ≤ w7.heap.size := hg.size; exact Nat.le_trans (by simp) h1); have hx := HX.out _ hb; have hx0 := hx.1; have hx1 := hx.2.1; have hx2 := hx.2.2; clear ho hb hg hx) | (at_builtin; refine Kd.R_append_rows k41 (Rr := k41.K w7) (w0 := w) w.heap.size rfl (.tmp 75) (.tmp 76) 22 41 (.agg #[(.string ⟨#[]⟩), (.bool false), (.string ⟨#[]⟩)]) 40 rfl Try.underlying22 info41 rfl (by decide) (by decide) v7 (cur.take kp) rs B rs.length cB (fun k => w6.heap.size ≤ k) (fun _ => False) rfl rfl ?aO ?aR ?aK (fun _ hk => hk.elim) ?aF ?aB ?aS ?aL ?_; (case aO => exact HO7.out); (case aR => exact HRS.out _ (R_C41 HR57.out).1); (case aK => exact fun x cs hx => k41_KM _ _ _ x cs hx); (case aF => exact fun k hk => Nat.le_trans hs7 hk); (case aB => exact HB7.out); (case aS => exact below_size HB7.out); (case aL => have := HL.out; have := HRL.out; simp <;> omega); intro v9 w9 ho hb _ _; have HO9 := Aside0.mk ho; have HB9 := Aside0.mk hb; clear ho hb))
              go_roundg (l1.length - i)
              case measure => have := HQ.out; omega
              case rel => exact ⟨i + 1, _, by go_num, by omega, ⟨by have := HQ.out; omega⟩, HS2, ⟨by have := apStep_le cur ⟨x0, false, x2⟩; have := HL.out; omega⟩, ⟨by rw [HAP.out]; exact Kd.R_mono HO9.out (fun _ _ => trivial)⟩, HB9⟩
            · have HAP := Aside0.mk (show apStep cur ⟨x0, true, x2⟩ = cur.take kp ++ [⟨x0, true, x2⟩] ++ rs by rw [HAPP.out, ← HRSE.out]; simp)
              clear HAPP HRSE
              go_wp2_with (first | (at_builtin; refine Kd.R_append_rows k41 (Rr := k41.K (w6.alloc (.cells #[] 41))) (w0 := w) w.heap.size rfl (.tmp 58) (.tmp 61) 22 41 (.agg #[(.string ⟨#[]⟩), (.bool false), (.string ⟨#[]⟩)]) 40 rfl Try.underlying22 info41 rfl (by decide) (by decide) _ [] (cur.take kp) A kp c (fun k => w6.heap.size ≤ k) (fun _ => False) rfl rfl ?aO ?aR ?aK (fun _ hk => hk.elim) ?aF ?aB ?aS ?aL ?_; (case aO => exact R_lit0 w6 w.heap.size _ (below_size HB6.out) (Nat.le_refl _)); (case aR => exact Kd.C_alloc HT6.out _); (case aK => exact fun x cs hx => k41_KM _ _ _ x cs hx); (case aF => exact fun k hk => Nat.le_trans (by simp) hk); (case aB => exact HB6.out.alloc (below_size HB6.out) _); (case aS => have := below_size HB6.out; simp <;> omega); (case aL => have := HL.out; simp <;> omega); intro v7 w7 ho hb hg _; rw [List.nil_append] at ho; have HO7 := Aside0.mk ho; have HB7 := Aside0.mk hb; have HR57 := Aside0.mk (Kd.R_grown (Kd.R_alloc HR5.out _) hg (fun k hk e => by have hk' : k < w6.heap.size := hk; have e' : k = w6.heap.size := Option.some.inj e; omega)); have hs7 : w6.heap.size ≤ w7.heap.size := (by have h1 : (w6.alloc (.cells #[] 41)).heap.size ≤ w7.heap.size := hg.size; exact Nat.le_trans (by simp) h1); have hx := HX.out _ hb; have hx0 := hx.1; have hx1 := hx.2.1; have hx2 := hx.2.2; clear ho hb hg hx) | (at_builtin; refine Kd.R_append k41 (w0 := w) w.heap.size rfl (.tmp 68) (.tmp 73) 22 41 (.agg #[(.string ⟨#[]⟩), (.bool false), (.string ⟨#[]⟩)]) 40 rfl Try.underlying22 info41 rfl (by decide) (by decide) v7 (cur.take kp) ⟨x0, true, x2⟩ [.string x0, .bool true, .string x2] (fun k => w6.heap.size ≤ k) (fun _ => False) rfl rfl ?aP (fun _ hk => hk.elim) ?aF ?aO ?aB ?aS ?aL ?_; (case aP => exact k41_mkM _ _ _ ⟨x0, true, x2⟩); (case aF => exact (fun k hk => Nat.le_trans hs7 hk)); (case aO => exact HO7.out); (case aB => exact HB7.out); (case aS => exact below_size HB7.out); (case aL => have := HL.out; simp <;> omega); intro v8 w8 ho hb hg _; have HO8 := Aside0.mk ho; have HB8 := Aside0.mk hb; have HR58 := Aside0.mk (Kd.R_grown HR57.out hg (fun k hk e => by have h1 : w6.heap.size ≤ k := HO7.out.1 k e.symm; have h2 : k < w6.heap.size := hk; omega)); have hs8 : w6.heap.size ≤ w8.heap.size := (by have := hg.size; omega); clear ho hb hg) | (at_builtin; refine Kd.R_append_rows k41 (Rr := k41.K w8) (w0 := w) w.heap.size rfl (.tmp 75) (.tmp 76) 22 41 (.agg #[(.string ⟨#[]⟩), (.bool false), (.string ⟨#[]⟩)]) 40 rfl Try.underlying22 info41 rfl (by decide) (by decide) v8 (cur.take kp ++ [⟨x0, true, x2⟩]) rs B rs.length cB (fun k => w6.heap.size ≤ k) (fun _ => False) rfl rfl ?aO ?aR ?aK (fun _ hk => hk.elim) ?aF ?aB ?aS ?aL ?_; (case aO => exact HO8.out); (case aR => exact HRS.out _ (R_C41 HR58.out).1); (case aK => exact fun x cs hx => k41_KM _ _ _ x cs hx); (case aF => exact fun k hk => Nat.le_trans hs8 hk); (case aB => exact HB8.out); (case aS => exact below_size HB8.out); (case aL => have := HL.out; have := HRL.out; simp <;> omega); intro v9 w9 ho hb _ _; have HO9 := Aside0.mk ho; have HB9 := Aside0.mk hb; clear ho hb))
              go_roundg (l1.length - i)
              case measure => have := HQ.out; omega
              case rel => exact ⟨i + 1, _, by go_num, by omega, ⟨by have := HQ.out; omega⟩, HS2, ⟨by have := apStep_le cur ⟨x0, true, x2⟩; have := HL.out; omega⟩, ⟨by rw [HAP.out]; exact Kd.R_mono HO9.out (fun _ _ => trivial)⟩, HB9⟩
      · have hi : i = l1.length := by omega
        subst hi
        have HS' := Aside0.mk (show cur = r by rw [← HS.out, List.drop_length]; rfl)
        clear HS
        go_wp2
        go_ret
        exact ⟨_, rfl, by rw [← HS'.out]; exact HO.out, HB.out⟩
  · rw [if_neg hsz] at h; cases h
end Go.Proofs.Yteblpjnkinghoaa.J
/- Rows of images as the cells of one block: what stores, copies, appends and clears do to them. -/
namespace Go.Proofs.Yteblpjnkinghoaa.J
open Go.BigFrame Go.RowKit Go.Proofs.YteblpjnkinghoaaW.PrintWords Go.Proofs.YteblpjnkinghoaaW.PrintLast Go.Proofs.YteblpjnkinghoaaW.PrintMore
/-- An image's three cells. -/
def cells3 (x : S41) : List Value := [.string x.f0, .bool x.f1, .string x.f2]
def flat (l : List S41) : List Value := l.flatMap cells3
theorem flat_cons (x : S41) (l : List S41) : flat (x :: l) = cells3 x ++ flat l := rfl
theorem flat_append (a b : List S41) : flat (a ++ b) = flat a ++ flat b := by simp [flat]
theorem flat_length (l : List S41) : (flat l).length = l.length * 3 := by
  induction l with
  | nil => rfl
  | cons x l ih => rw [flat_cons, List.length_append, ih]; simp [cells3]; omega
theorem flat_one (l : List S41) : ∀ u ∈ flat l, u.oneCell' = true := by
  intro u hu
  obtain ⟨x, _, hx⟩ := List.mem_flatMap.1 hu
  simp [cells3] at hx
  rcases hx with rfl | rfl | rfl <;> rfl
theorem flat_take (l : List S41) (k : Nat) : (flat l).take (k * 3) = flat (l.take k) := by
  induction l generalizing k with
  | nil => simp [flat]
  | cons x l ih =>
    cases k with
    | zero => simp [flat]
    | succ k =>
      rw [flat_cons, List.take_succ_cons, flat_cons, ← ih k, show (k + 1) * 3 = k * 3 + 1 + 1 + 1 by omega]
      simp [cells3]
theorem flat_drop (l : List S41) (k : Nat) : (flat l).drop (k * 3) = flat (l.drop k) := by
  induction l generalizing k with
  | nil => simp [flat]
  | cons x l ih =>
    cases k with
    | zero => simp
    | succ k =>
      rw [flat_cons, List.drop_succ_cons, ← ih k, show (k + 1) * 3 = k * 3 + 1 + 1 + 1 by omega]
      simp [cells3]
/-- An own row's cells: its images, then what is spare. -/
def Im (w : World) (g cap : Nat) (cs : List Value) : Prop := w.heap[g]? = some (.cells cs.toArray 41) ∧ cs.length = cap * 3 ∧ cap ≤ maxLen
theorem reps_flat {w : World} {base : Nat} {ok : Nat → Prop} : ∀ (xs : List S41) (inner : List Value), Reps (k41.M w base ok) 3 xs inner → inner = flat xs
  | [], inner, h => List.eq_nil_of_length_eq_zero (by simpa using h.1)
  | x :: xs, inner, h => by
    have h0 := h.2 0 x rfl
    have hd := Kd.reps_drop (m := 1) h
    have e := reps_flat xs _ (by simpa using hd)
    rw [flat_cons, ← e]
    have e0 := k41_openM h0
    simp at e0
    unfold cells3
    rw [← e0, List.take_append_drop]
theorem flat_reps {w : World} {base : Nat} {ok : Nat → Prop} : ∀ (xs : List S41), Reps (k41.M w base ok) 3 xs (flat xs) := fun xs =>
  ⟨flat_length xs, fun j p hj => by
    rw [flat_drop, show (3 : Nat) = 1 * 3 from rfl, flat_take]
    have : (xs.drop j).take 1 = [p] := by
      obtain ⟨hlt, rfl⟩ := List.getElem?_eq_some_iff.1 hj
      rw [List.drop_eq_getElem_cons hlt]; rfl
    rw [this]
    exact k41_mkM _ _ _ p⟩
theorem R_im {w : World} {base : Nat} {ok : Nat → Prop} {v : Value} {xs : List S41} (h : Kd.R k41 41 w base ok v xs) :
    (xs = [] ∧ v = .slice none 0 0) ∨ ∃ g cap rest, v = .slice (some ⟨g, 0, none⟩) xs.length cap ∧ ok g ∧ base ≤ g ∧ xs.length ≤ cap ∧ Im w g cap (flat xs ++ rest) := by
  obtain ⟨h0, inner, ho, hr⟩ := h
  have hin := reps_flat xs inner hr
  subst hin
  rcases ho.2 with ⟨rfl, hn⟩ | ⟨g, cap, cur, rfl, hb, hh, hnc, hcm, hcs, ht⟩
  · exact .inl ⟨List.eq_nil_of_length_eq_zero hn, rfl⟩
  · refine .inr ⟨g, cap, cur.toList.drop (xs.length * 3), rfl, h0 g rfl, hb, hnc, ?_, ?_, hcm⟩
    · have ht' : cur.toList.take (xs.length * 3) = flat xs := ht
      rw [← ht', List.take_append_drop]; exact hh
    · have ht' : cur.toList.take (xs.length * 3) = flat xs := ht
      rw [← ht', List.take_append_drop, Array.length_toList]; exact hcs
theorem im_R {w : World} {base : Nat} {ok : Nat → Prop} {xs : List S41} {g cap : Nat} {rest : List Value} (h : Im w g cap (flat xs ++ rest)) (hl : xs.length ≤ cap) (hb : base ≤ g) (hg : ok g) :
    Kd.R k41 41 w base ok (.slice (some ⟨g, 0, none⟩) xs.length cap) xs := by
  refine ⟨fun k hk => by cases hk; exact hg, flat xs, ⟨flat_length xs, .inr ⟨g, cap, (flat xs ++ rest).toArray, rfl, hb, h.1, hl, h.2.2, ?_, ?_⟩⟩, flat_reps xs⟩
  · rw [List.size_toArray]; exact h.2.1
  · show (flat xs ++ rest).take (xs.length * 3) = flat xs
    rw [← flat_length, List.take_left]
namespace Im
variable {w w' : World} {g cap : Nat} {cs : List Value}
theorem lt (h : Im w g cap cs) : g < w.heap.size := (Array.getElem?_eq_some_iff.1 h.1).1
theorem cell (h : Im w g cap cs) (j : Nat) (v : Value) (hj : cs[j]? = some v) : w.cell? ⟨g, j, none⟩ = some v := by
  unfold World.cell?
  simp [h.1, hj]
theorem below (h : Im w g cap cs) (hb : Below w.heap.size w w') : Im w' g cap cs := ⟨(hb.block g h.lt).trans h.1, h.2⟩
theorem move (h : Im w g cap cs) (hb : w'.heap[g]? = w.heap[g]?) : Im w' g cap cs := ⟨hb.trans h.1, h.2⟩
theorem frozen (h : Im w g cap cs) (o : Nat) : w.frozen? ⟨g, o, none⟩ = false := by
  unfold World.frozen?
  simp [h.1]
theorem shape (h : Im w g cap cs) : w.shape? g = some (41, cap * 3) := by
  unfold World.shape?
  simp [h.1, h.2.1]
end Im
/-- What a row holds after a stretch of its cells was written. -/
def spliced (cs : List Value) (o : Nat) (vs : List Value) : List Value := cs.take o ++ vs ++ cs.drop (o + vs.length)
theorem spliced_length (cs : List Value) (o : Nat) (vs : List Value) (h : o + vs.length ≤ cs.length) : (spliced cs o vs).length = cs.length := by
  unfold spliced; simp; omega
theorem Im.put {w : World} {g cap : Nat} {cs : List Value} (h : Im w g cap cs) (o : Nat) (vs : List Value) (hf : o + vs.length ≤ cs.length) : Im (w.setRow g (spliced cs o vs).toArray) g cap (spliced cs o vs) :=
  ⟨setRow_heap w g _ _ 41 (0, 0) h.1, by rw [spliced_length _ _ _ hf]; exact h.2.1, h.2.2⟩
theorem below_row {B g : Nat} {w0 w : World} (hb : Below B w0 w) (hBg : B ≤ g) (cs : Array Value) : Below B w0 (w.setRow g cs) := below_setRow hb hBg cs
theorem info41z : (Try.prog.info? 41).map (·.size) = some 3 := by
  obtain ⟨i0, hi, _, hz, _⟩ := info_parts info41
  rw [hi]; simp; exact hz
/-- copy(d, s). -/
theorem run_copy41 {w : World} {g cap : Nat} {cs : List Value} (h : Im w g cap cs) (ty : TypeId) (o dLen dCap : Nat) (a : Addr) (sLen sCap : Nat) (vs : List Value) (hn : vs.length = Nat.min sLen dLen * 3)
    (hsrc : ∀ j v, vs[j]? = some v → w.cell? (a.add j) = some v) (hfit : o + vs.length ≤ cs.length) (h1 : ∀ v ∈ vs, v.oneCell' = true) :
    (Builtin.copy_ #[22, 22] ty #[.slice (some ⟨g, o, none⟩) dLen dCap, .slice (some a) sLen sCap]).run Try.prog w = .ok (goInt (Nat.min sLen dLen)) (w.setRow g (spliced cs o vs).toArray) := by
  have hl := run_loadCells_list (P := Try.prog) w a vs hsrc
  have hst := run_storeCells_at Try.prog g o 41 vs 0 cs.toArray w h.1 (by simpa using hfit) h1
  have hi := info41z
  cases hq : Try.prog.info? 41 with
  | none => simp [hq] at hi
  | some i =>
    have hz : i.size = 3 := by simpa [hq] using hi
    rw [hn] at hl
    simp only [Builtin.copy_]
    simp [run_underlying Try.underlying22, Builtin.lenOf, Builtin.firstCells, sizeOf, typeInfo, hq, hz, hl, hst, spliced]
theorem info41p : ∃ i, Try.prog.info? 41 = some i ∧ i.size = 3 ∧ i.zero = some (.agg #[(.string ⟨#[]⟩), (.bool false), (.string ⟨#[]⟩)]) ∧ i.bytes = 40 := by
  obtain ⟨i0, hi, h0, hz, hb⟩ := info_parts info41
  exact ⟨i0, hi, hz, h0, hb⟩
theorem zeroCells3_length (n : Nat) : (Builtin.zeroCells (Value.agg #[(.string ⟨#[]⟩), (.bool false), (.string ⟨#[]⟩)]).cells n).size = n * 3 := by
  rw [size_zeroCells]; rfl
/-- append(s, make([]T, n)...) where there is no room. -/
theorem run_append41_zeros {w : World} {g cap : Nat} {cs : List Value} (h : Im w g cap cs) (ty : TypeId) (sLen n : Nat) (hs : sLen ≤ cap) (hg : cap < sLen + n) (h63 : sLen + n ≤ 2000000) :
    (Builtin.append_ #[22, 3] ty #[.slice (some ⟨g, 0, none⟩) sLen cap, .int .i64 n]).run Try.prog w =
      .ok (.slice (some ⟨w.heap.size, 0, none⟩) (sLen + n) (grownCap w (sLen + n) cap 41))
        (w.drew.alloc (.cells ((cs.take (sLen * 3)).toArray ++ Builtin.zeroCells (Value.agg #[(.string ⟨#[]⟩), (.bool false), (.string ⟨#[]⟩)]).cells n ++ Builtin.zeroCells (Value.agg #[(.string ⟨#[]⟩), (.bool false), (.string ⟨#[]⟩)]).cells (grownCap w (sLen + n) cap 41 - (sLen + n))) 41)) := by
  obtain ⟨i, hi, hz, h0, hb⟩ := info41p
  have hn : ¬ (sLen + n ≤ cap) := by omega
  have hn0 : n ≠ 0 := by omega
  have hw : IntKind.i64.wrap (n : Int) = n := by rw [IntKind.wrap_i64]; omega
  have h63' : ¬ (9223372036854775807 < ((sLen : Int) + (n : Int))) := by omega
  have hneg : ¬ ((n : Int) < 0) := by omega
  have h48i : ¬ (281474976710656 < (n : Int) * 40) := by omega
  have hfit : Builtin.nextslicecap (sLen + n) cap * 40 ≤ 281474976710656 := growslice_fits hg (by omega)
  have h48' : ¬ (281474976710656 < Builtin.nextslicecap (sLen + n) cap * 40) := by omega
  have hlo : (cs.take (sLen * 3)).length = sLen * i.size := by rw [List.length_take, h.2.1, hz]; exact Nat.min_eq_left (Nat.mul_le_mul_right _ hs)
  have hfo := run_firstCells_some (P := Try.prog) w.drew i.size sLen ⟨g, 0, none⟩ sLen cap (cs.take (sLen * 3)) hlo (fun j v hj => by
    rw [List.getElem?_take] at hj
    split at hj
    · have := h.cell j v hj
      simpa [Addr.add_lit] using this
    · cases hj)
  rw [hz] at hfo
  have hn3 : ¬ n * 3 = 0 := by omega
  simp [Builtin.append_, run_underlying Try.underlying22, run_underlying Try.underlying3, sizeOf, typeInfo, zeroValue, hi, hz, h0, hb, asInt, asIntOf, hw, hn0, hneg, hn, h63', h48', h48i, Question.forced, hfo, hn3, newRow, grownCap]
/-- clear(s). -/
theorem run_clear41 {w : World} {g cap : Nat} {cs : List Value} (h : Im w g cap cs) (ty : TypeId) (o n c : Nat) (hn : 0 < n) (hf : o + n * 3 ≤ cs.length) :
    (Builtin.clear_ #[22] ty #[.slice (some ⟨g, o, none⟩) n c]).run Try.prog w = .ok (.tuple #[]) (w.setRow g (spliced cs o (Builtin.zeroCells (Value.agg #[(.string ⟨#[]⟩), (.bool false), (.string ⟨#[]⟩)]).cells n).toList).toArray) := by
  obtain ⟨i, hi, hz, h0, hb⟩ := info41p
  have hst := run_storeCells_at Try.prog g o 41 (Builtin.zeroCells (Value.agg #[(.string ⟨#[]⟩), (.bool false), (.string ⟨#[]⟩)]).cells n).toList 0 cs.toArray w h.1 (by rw [Array.length_toList, zeroCells3_length]; simpa using hf) (fun v hv => by
    simp [Builtin.zeroCells, Value.cells] at hv
    obtain ⟨j, hj, rfl⟩ := hv
    have : j % 3 = 0 ∨ j % 3 = 1 ∨ j % 3 = 2 := by omega
    rcases this with e | e | e <;> simp [e] <;> rfl)
  obtain ⟨m, rfl⟩ : ∃ m, n = m + 1 := ⟨n - 1, by omega⟩
  simp [Builtin.clear_, run_underlying Try.underlying22, zeroValue, typeInfo, hi, h0, hst, spliced]
end Go.Proofs.Yteblpjnkinghoaa.J
/- The contract of slices.Insert at images, one element, into a row of the call's own. -/
namespace Go.Proofs.Yteblpjnkinghoaa.J
open Go.BigFrame Go.RowKit Go.Proofs.YteblpjnkinghoaaW.PrintWords Go.Proofs.YteblpjnkinghoaaW.PrintLast Go.Proofs.YteblpjnkinghoaaW.PrintMore
/-- At the end. -/
theorem insert_end (xs : List S41) (x : S41) (s base : Nat) (v : Value) (w : World) (hR : Kd.R k41 41 w base (fun _ => True) v xs) (hs : w.heap[s]? = some (.cells #[.string x.f0, .bool x.f1, .string x.f2] 41)) (hb : base ≤ w.heap.size) (hl : xs.length ≤ 1000000) :
    Calls Try.prog 49 #[v, .int .i64 xs.length, .slice (some ⟨s, 0, none⟩) 1 1] w fun e w' => ∃ v' : Value, e = .returned v' ∧ Kd.R k41 41 w' base (fun _ => True) v' (xs ++ [x]) ∧ Below base w w' := by
  obtain ⟨A, c, rfl, hlc, hC⟩ := Kd.R_reads hR
  have HR := Aside0.mk hR
  have hrow : ReadsRow (k41.K w) 3 w (some ⟨s, 0, none⟩) 1 [x] := ⟨rfl, by decide, fun _ => ⟨_, rfl, fun j p hj => by
    cases j with
    | zero =>
      cases hj
      refine ⟨cells3 x, rfl, k41_mk w x, fun i u hu => ?_⟩
      have : i = 0 ∨ i = 1 ∨ i = 2 := by have := (List.getElem?_eq_some_iff.1 hu).1; simp [cells3] at this; omega
      rcases this with rfl | rfl | rfl <;> cases hu
      · exact (blk_cell hs 0).trans rfl
      · exact (blk_cell hs 1).trans rfl
      · exact (blk_cell hs 2).trans rfl
    | succ j => simp at hj⟩⟩
  have HW := Aside0.mk hrow
  clear hR hC hrow hs
  obtain ⟨i0, hi0, _, hsz0, _⟩ := info_parts info41
  have hsz0 : i0.size = 3 := hsz0
  have hcut := cut_from (P := Try.prog) 22 41 .i64 Try.underlying22 hi0 3 hsz0 A xs.length c (xs.length : Int) (by omega) (by omega)
  rw [Int.toNat_natCast, Nat.sub_self] at hcut
  obtain ⟨B, hcut⟩ : ∃ B, ∀ W : World, (Instr.slice 22 (.slice A xs.length c) (some (.int .i64 (xs.length : Int))) none none).run Try.prog W = .ok (.slice B 0 (c - xs.length)) W := ⟨_, hcut⟩
  clear hi0 hsz0
  go_enter Try.func49, Try.ntmps49
  go_wp2_with (first | (at_builtin; refine Kd.R_append_rows k41 (Rr := k41.K w) (w0 := w) base rfl (.tmp 23) (.tmp 24) 22 41 (.agg #[(.string ⟨#[]⟩), (.bool false), (.string ⟨#[]⟩)]) 40 rfl Try.underlying22 info41 rfl (by decide) (by decide) (.slice A xs.length c) xs [x] (some ⟨s, 0, none⟩) 1 1 (fun _ => True) (fun _ => False) rfl rfl ?aO ?aR ?aK (fun _ hk => hk.elim) (fun _ _ => trivial) ?aB ?aS ?aL ?_; (case aO => exact HR.out); (case aR => exact HW.out); (case aK => exact fun x cs hx => k41_KM _ _ _ x cs hx); (case aB => exact Below.refl _ _); (case aS => exact hb); (case aL => omega); intro v1 w1 ho hb1 _ _))
  all_goals (go_ret; exact ⟨_, rfl, ho, hb1⟩)
theorem Im.get {w : World} {g cap : Nat} {cs : List Value} (h : Im w g cap cs) (o k : Nat) : ∀ j v, ((cs.drop o).take k)[j]? = some v → w.cell? ((⟨g, o, none⟩ : Addr).add j) = some v := fun j v hj => by
  rw [List.getElem?_take] at hj
  split at hj
  · rw [List.getElem?_drop] at hj
    rw [Addr.add_lit]
    exact h.cell (o + j) v hj
  · cases hj
theorem spliced_at (A Z V : List Value) : spliced (A ++ Z) A.length V = A ++ V ++ Z.drop V.length := by
  unfold spliced
  rw [List.take_left, List.drop_append]
  have : A.drop (A.length + V.length) = [] := List.drop_eq_nil_of_le (by omega)
  rw [this, List.nil_append, show A.length + V.length - A.length = V.length by omega]
theorem spliced_flat (A : List S41) (Z V : List Value) : spliced (flat A ++ Z) (A.length * 3) V = flat A ++ V ++ Z.drop V.length := by
  rw [← flat_length]; exact spliced_at _ _ _
theorem grownCap_ge (w : World) (need old : Nat) (e : TypeId) : need ≤ grownCap w need old e := by
  simp only [grownCap, Question.cut]; omega
theorem cells3_get {w : World} {s : Nat} {x : S41} (hs : w.heap[s]? = some (.cells #[.string x.f0, .bool x.f1, .string x.f2] 41)) : ∀ j v, (cells3 x)[j]? = some v → w.cell? ((⟨s, 0, none⟩ : Addr).add j) = some v := fun j v hj => by
  have : j = 0 ∨ j = 1 ∨ j = 2 := by have := (List.getElem?_eq_some_iff.1 hj).1; simp [cells3] at this; omega
  rcases this with rfl | rfl | rfl <;> cases hj
  · exact (blk_cell hs 0).trans rfl
  · exact (blk_cell hs 1).trans rfl
  · exact (blk_cell hs 2).trans rfl
theorem cells3_one (x : S41) : ∀ v ∈ cells3 x, v.oneCell' = true := by
  intro u hx
  simp [cells3] at hx
  rcases hx with rfl | rfl | rfl <;> rfl
/-- append(s[:i], make([]T, n + 1 - i)...) where the row is full. -/
theorem grown41 {w : World} {g : Nat} {xs : List S41} (hI : Im w g xs.length (flat xs)) (i : Nat) (hi : i < xs.length) (hl : xs.length ≤ 1000000) :
    ∃ w1 cp Z, (∀ ty, (Builtin.append_ #[22, 3] ty #[.slice (some ⟨g, 0, none⟩) i xs.length, .int .i64 ((xs.length + 1 - i : Nat) : Int)]).run Try.prog w = .ok (.slice (some ⟨w.heap.size, 0, none⟩) (xs.length + 1) cp) w1) ∧
      xs.length + 1 ≤ cp ∧ Im w1 w.heap.size cp (flat (xs.take i) ++ Z) ∧ Z.length = (cp - i) * 3 ∧ ∀ base, base ≤ w.heap.size → Below base w w1 := by
  have hn : i + (xs.length + 1 - i) = xs.length + 1 := by omega
  have hr := fun ty => run_append41_zeros hI ty i (xs.length + 1 - i) (by omega) (by omega) (by omega)
  rw [hn] at hr
  have hge := grownCap_ge w (xs.length + 1) xs.length 41
  have hmx := grownCap_le_maxLen w (xs.length + 1) xs.length 41 (by simp only [maxLen]; omega)
  generalize grownCap w (xs.length + 1) xs.length 41 = cp at hr hge hmx
  have z : ∀ n, (Builtin.zeroCells (Value.agg #[(.string ⟨#[]⟩), (.bool false), (.string ⟨#[]⟩)]).cells n).toList.length = n * 3 := fun n => by rw [Array.length_toList, zeroCells3_length]
  refine ⟨_, cp, (Builtin.zeroCells (Value.agg #[(.string ⟨#[]⟩), (.bool false), (.string ⟨#[]⟩)]).cells (xs.length + 1 - i)).toList ++ (Builtin.zeroCells (Value.agg #[(.string ⟨#[]⟩), (.bool false), (.string ⟨#[]⟩)]).cells (cp - (xs.length + 1))).toList, hr, hge, ⟨?_, ?_, hmx⟩, ?_, fun base hb => (Below.refl _ _).drew.alloc hb _⟩
  · have := heap_alloc_new w.drew (.cells (((flat xs).take (i * 3)).toArray ++ Builtin.zeroCells (Value.agg #[(.string ⟨#[]⟩), (.bool false), (.string ⟨#[]⟩)]).cells (xs.length + 1 - i) ++ Builtin.zeroCells (Value.agg #[(.string ⟨#[]⟩), (.bool false), (.string ⟨#[]⟩)]).cells (cp - (xs.length + 1))) 41)
    refine Eq.trans this ?_
    rw [flat_take]
    congr 2
    apply Array.ext'
    simp
  · rw [List.length_append, List.length_append, flat_length, z, z, List.length_take]
    omega
  · rw [List.length_append, z, z]
    omega
set_option maxHeartbeats 4000000 in
set_option maxRecDepth 100000 in
/-- Not at the end, there is no room: the walk. -/
theorem insert_grow_walk (n i cp h g s : Nat) (w w1 w2 w3 : World) (hn : n ≤ 1000000) (hi : i < n) (hcp : n + 1 ≤ cp)
    (hcut : ∀ W : World, (Instr.slice 22 (.slice (some ⟨g, 0, none⟩) n n) (some (.int .i64 (i : Int))) none none).run Try.prog W = .ok (.slice (some ⟨g, i * 3, none⟩) (n - i) (n - i)) W)
    (hct : ∀ W : World, (Instr.slice 22 (.slice (some ⟨g, 0, none⟩) n n) none (some (.int .i64 (i : Int))) none).run Try.prog W = .ok (.slice (some ⟨g, 0, none⟩) i n) W)
    (hz : ∀ ty, (Builtin.append_ #[22, 3] ty #[.slice (some ⟨g, 0, none⟩) i n, .int .i64 ((n + 1 - i : Nat) : Int)]).run Try.prog w = .ok (.slice (some ⟨h, 0, none⟩) (n + 1) cp) w1)
    (hc1 : ∀ W : World, (Instr.slice 22 (.slice (some ⟨h, 0, none⟩) (n + 1) cp) (some (.int .i64 (i : Int))) none none).run Try.prog W = .ok (.slice (some ⟨h, i * 3, none⟩) (n + 1 - i) (cp - i)) W)
    (hcpy1 : ∀ ty, (Builtin.copy_ #[22, 22] ty #[.slice (some ⟨h, i * 3, none⟩) (n + 1 - i) (cp - i), .slice (some ⟨s, 0, none⟩) 1 1]).run Try.prog w1 = .ok (goInt 1) w2)
    (hc2 : ∀ W : World, (Instr.slice 22 (.slice (some ⟨h, 0, none⟩) (n + 1) cp) (some (.int .i64 ((i : Int) + 1))) none none).run Try.prog W = .ok (.slice (some ⟨h, (i + 1) * 3, none⟩) (n + 1 - (i + 1)) (cp - (i + 1))) W)
    (hcpy2 : ∀ ty, (Builtin.copy_ #[22, 22] ty #[.slice (some ⟨h, (i + 1) * 3, none⟩) (n + 1 - (i + 1)) (cp - (i + 1)), .slice (some ⟨g, i * 3, none⟩) (n - i) (n - i)]).run Try.prog w2.drew = .ok (goInt ((n - i : Nat) : Int)) w3) :
    Calls Try.prog 49 #[.slice (some ⟨g, 0, none⟩) n n, .int .i64 i, .slice (some ⟨s, 0, none⟩) 1 1] w fun e w' => e = .returned (.slice (some ⟨h, 0, none⟩) (n + 1) cp) ∧ w' = w3 := by
  have HZ := Aside0.mk hz
  have HC1 := Aside0.mk hcpy1
  have HC2 := Aside0.mk hcpy2
  clear hz hcpy1 hcpy2
  go_enter Try.func49, Try.ntmps49
  go_upto_region 9 with (fail)
  go_upto_region 10 with (first | (at_builtin; refine Lib.wpList_append_run _ rfl (.tmp 34) (.tmp 39) 22 3 rfl _ (.int .i64 ((n + 1 - i : Nat) : Int)) rfl ?hx _ _ (HZ.out _) ?_; (case hx => show Value.int .i64 _ = _; congr 1; omega)))
  go_upto_region 11 with (first | (refine wpList_copy_runI _ rfl (.tmp 43) (.tmp 44) 22 22 rfl (.slice (some ⟨h, i * 3, none⟩) (n + 1 - i) (cp - i)) (.slice (some ⟨s, 0, none⟩) 1 1) rfl rfl (HC1.out _) ?_))
  go_frame
  have hw1 : IntKind.i64.wrap ((i : Int) + 1) = (i : Int) + 1 := by rw [IntKind.wrap_i64]; omega
  have hb1 : (0 : Int) ≤ (i : Int) + 1 := by omega
  have hb0 : (i : Int) ≤ (n : Int) := by omega
  have hb3 : (i : Int) + 1 ≤ (n : Int) + 1 := by omega
  have htn : ((i : Int) + 1).toNat = i + 1 := by omega
  have hb2 : ¬ (cp = i + 1) := by omega
  have hb4 : ¬ (n = i) := by omega
  have hin : i ≤ n := by omega
  go_region_law (refine step_copy_runI rfl (.tmp 50) (.tmp 53) 22 22 rfl (.slice (some ⟨h, (i + 1) * 3, none⟩) (n + 1 - (i + 1)) (cp - (i + 1))) (.slice (some ⟨g, i * 3, none⟩) (n - i) (n - i)) (by simp [Act.eval, Act.put]) (by simp [Act.eval, Act.put]) (HC2.out _) ?_)
  go_wp2
  go_ret
  exact ⟨rfl, rfl⟩
set_option maxHeartbeats 2000000 in
set_option maxRecDepth 100000 in
/-- Not at the end, there is no room. -/
theorem insert_grow (xs : List S41) (x : S41) (s base g i : Nat) (w : World) (hI : Im w g xs.length (flat xs)) (hs : w.heap[s]? = some (.cells #[.string x.f0, .bool x.f1, .string x.f2] 41)) (hb : base ≤ w.heap.size) (hl : xs.length ≤ 1000000) (hi : i < xs.length) :
    Calls Try.prog 49 #[.slice (some ⟨g, 0, none⟩) xs.length xs.length, .int .i64 i, .slice (some ⟨s, 0, none⟩) 1 1] w fun e w' => ∃ v' : Value, e = .returned v' ∧ Kd.R k41 41 w' base (fun _ => True) v' (xs.take i ++ x :: xs.drop i) ∧ Below base w w' := by
  obtain ⟨i0, hi0, _, hsz0, _⟩ := info_parts info41
  have hsz0 : i0.size = 3 := hsz0
  have hcut := cut_from (P := Try.prog) 22 41 .i64 Try.underlying22 hi0 3 hsz0 (some ⟨g, 0, none⟩) xs.length xs.length (i : Int) (by omega) (by omega)
  rw [Int.toNat_natCast, if_neg (by omega)] at hcut
  have hII := Aside0.mk hI
  have hsl : s ≠ g → (w.heap[s]? = some (.cells #[.string x.f0, .bool x.f1, .string x.f2] 41)) := fun _ => hs
  have hlt := hI.lt
  have hslt := (Array.getElem?_eq_some_iff.1 hs).1
  have hct := cut_to (P := Try.prog) 22 41 .i64 Try.underlying22 hi0 (some ⟨g, 0, none⟩) xs.length xs.length (i : Int) (by omega) (by omega) (Nat.le_refl _)
  rw [Int.toNat_natCast] at hct
  have d1 : decide ((i : Int) = (xs.length : Int)) = false := decide_eq_false (by omega)
  have d1' : ((i : Int) == (xs.length : Int)) = false := by rw [Bool.eq_false_iff]; simp; omega
  obtain ⟨w1, cp, Z, hz, hcp, hI1, hZ, hB1⟩ := grown41 hI i hi hl
  have hb1 := hB1 w.heap.size (Nat.le_refl _)
  have hne : g ≠ w.heap.size := by omega
  -- the first copy
  have hcpy1 : ∀ ty, (Builtin.copy_ #[22, 22] ty #[.slice (some ⟨w.heap.size, i * 3, none⟩) (xs.length + 1 - i) (cp - i), .slice (some ⟨s, 0, none⟩) 1 1]).run Try.prog w1 = .ok (goInt 1) (w1.setRow w.heap.size (spliced (flat (xs.take i) ++ Z) (i * 3) (cells3 x)).toArray) := fun ty => by
    have := run_copy41 hI1 ty (i * 3) (xs.length + 1 - i) (cp - i) ⟨s, 0, none⟩ 1 1 (cells3 x) (show 3 = Nat.min 1 (xs.length + 1 - i) * 3 by rw [show Nat.min 1 (xs.length + 1 - i) = 1 from Nat.min_eq_left (by omega)]) (cells3_get ((hb1.block _ hslt).trans hs)) (by simp [cells3, flat_length, hZ]; omega) (cells3_one x)
    rwa [show Nat.min 1 (xs.length + 1 - i) = 1 from Nat.min_eq_left (by omega)] at this
  have hlt2 : (xs.take i).length = i := by rw [List.length_take]; omega
  have e1 : spliced (flat (xs.take i) ++ Z) (i * 3) (cells3 x) = flat (xs.take i ++ [x]) ++ Z.drop 3 := by
    have := spliced_flat (xs.take i) Z (cells3 x)
    rw [hlt2] at this
    rw [this, flat_append]
    simp [flat, cells3]
  have hI2 := hI1.put (i * 3) (cells3 x) (by simp [cells3, flat_length, hZ]; omega)
  rw [e1] at hcpy1 hI2
  obtain ⟨w2, hw2⟩ : ∃ w2, w2 = w1.setRow w.heap.size (flat (xs.take i ++ [x]) ++ Z.drop 3).toArray := ⟨_, rfl⟩
  rw [← hw2] at hcpy1 hI2
  have hB2 : Below base w w2 := by rw [hw2]; exact below_row (hB1 base hb) hb _
  have hIg : Im w2 g xs.length (flat xs) := (hI.below hb1).move (by rw [hw2]; exact setRow_other _ _ _ _ hne)
  -- the second
  have hlt3 : (xs.take i ++ [x]).length = i + 1 := by rw [List.length_append, hlt2]; rfl
  have hdr : (flat (xs.drop i)).length = (xs.length - i) * 3 := by rw [flat_length, List.length_drop]
  have hcpy2 : ∀ ty, (Builtin.copy_ #[22, 22] ty #[.slice (some ⟨w.heap.size, (i + 1) * 3, none⟩) (xs.length + 1 - (i + 1)) (cp - (i + 1)), .slice (some ⟨g, i * 3, none⟩) (xs.length - i) (xs.length - i)]).run Try.prog w2.drew = .ok (goInt ((xs.length - i : Nat) : Int)) (w2.drew.setRow w.heap.size (spliced (flat (xs.take i ++ [x]) ++ Z.drop 3) ((i + 1) * 3) (flat (xs.drop i))).toArray) := fun ty => by
    have := run_copy41 (hI2.below ((Below.refl _ w2).drew)) ty ((i + 1) * 3) (xs.length + 1 - (i + 1)) (cp - (i + 1)) ⟨g, i * 3, none⟩ (xs.length - i) (xs.length - i) (flat (xs.drop i)) (by rw [hdr, show Nat.min (xs.length - i) (xs.length + 1 - (i + 1)) = xs.length - i from Nat.min_eq_left (by omega)]) (fun j v hj => by
      have h2 := (hIg.below ((Below.refl _ w2).drew)).get (i * 3) ((xs.length - i) * 3) j v
      rw [flat_drop] at h2
      exact h2 (by rw [List.take_of_length_le (by rw [hdr]; exact Nat.le_refl _)]; exact hj)) (by rw [hdr, List.length_append, flat_length, hlt3, List.length_drop, hZ]; omega) (flat_one _)
    rwa [show Nat.min (xs.length - i) (xs.length + 1 - (i + 1)) = xs.length - i from Nat.min_eq_left (by omega)] at this
  have e2 : spliced (flat (xs.take i ++ [x]) ++ Z.drop 3) ((i + 1) * 3) (flat (xs.drop i)) = flat (xs.take i ++ x :: xs.drop i) ++ (Z.drop 3).drop (flat (xs.drop i)).length := by
    have := spliced_flat (xs.take i ++ [x]) (Z.drop 3) (flat (xs.drop i))
    rw [hlt3] at this
    rw [this, ← flat_append]
    simp
  have hI3 := (hI2.below ((Below.refl _ w2).drew)).put ((i + 1) * 3) (flat (xs.drop i)) (by rw [hdr, List.length_append, flat_length, hlt3, List.length_drop, hZ]; omega)
  rw [e2] at hcpy2 hI3
  obtain ⟨w3, hw3⟩ : ∃ w3, w3 = w2.drew.setRow w.heap.size (flat (xs.take i ++ x :: xs.drop i) ++ (Z.drop 3).drop (flat (xs.drop i)).length).toArray := ⟨_, rfl⟩
  rw [← hw3] at hcpy2 hI3
  have hB3 : Below base w w3 := by rw [hw3]; exact below_row hB2.drew hb _
  have hln : (xs.take i ++ x :: xs.drop i).length = xs.length + 1 := by simp; omega
  have HF := Aside0.mk (show Kd.R k41 41 w3 base (fun _ => True) (.slice (some ⟨w.heap.size, 0, none⟩) (xs.length + 1) cp) (xs.take i ++ x :: xs.drop i) by
    have := im_R (base := base) (ok := fun _ => True) hI3 (by rw [hln]; exact hcp) hb trivial
    rwa [hln] at this)
  -- the cuts
  have hc1 : ∀ W : World, (Instr.slice 22 (.slice (some ⟨w.heap.size, 0, none⟩) (xs.length + 1) cp) (some (.int .i64 (i : Int))) none none).run Try.prog W = .ok (.slice (some ⟨w.heap.size, i * 3, none⟩) (xs.length + 1 - i) (cp - i)) W := fun W => by
    have := cut_from (P := Try.prog) 22 41 .i64 Try.underlying22 hi0 3 hsz0 (some ⟨w.heap.size, 0, none⟩) (xs.length + 1) cp (i : Int) (by omega) (by omega) W
    rw [Int.toNat_natCast, if_neg (by omega)] at this
    simpa [Addr.add_lit] using this
  have hc2 : ∀ W : World, (Instr.slice 22 (.slice (some ⟨w.heap.size, 0, none⟩) (xs.length + 1) cp) (some (.int .i64 ((i : Int) + 1))) none none).run Try.prog W = .ok (.slice (some ⟨w.heap.size, (i + 1) * 3, none⟩) (xs.length + 1 - (i + 1)) (cp - (i + 1))) W := fun W => by
    have := cut_from (P := Try.prog) 22 41 .i64 Try.underlying22 hi0 3 hsz0 (some ⟨w.heap.size, 0, none⟩) (xs.length + 1) cp ((i : Int) + 1) (by omega) (by omega) W
    rw [show ((i : Int) + 1).toNat = i + 1 by omega, if_neg (by omega)] at this
    simpa [Addr.add_lit] using this
  have hcut' : ∀ W : World, (Instr.slice 22 (.slice (some ⟨g, 0, none⟩) xs.length xs.length) (some (.int .i64 (i : Int))) none none).run Try.prog W = .ok (.slice (some ⟨g, i * 3, none⟩) (xs.length - i) (xs.length - i)) W := fun W => by
    simpa [Addr.add_lit] using hcut W
  refine (insert_grow_walk xs.length i cp w.heap.size g s w w1 w2 w3 hl hi hcp hcut' hct hz hc1 hcpy1 hc2 hcpy2).mono ?_
  rintro e w' ⟨rfl, rfl⟩
  exact ⟨_, rfl, HF.out, hB3⟩
theorem size41 (w : World) : (Go.sizeOf 41).run Try.prog w = .ok 3 w := by kernel_rfl
set_option maxHeartbeats 4000000 in
set_option maxRecDepth 100000 in
/-- Not at the end, there is room: the walk. -/
theorem insert_room_walk (n i cp g s : Nat) (w w1 w2 : World) (hn : n ≤ 1000000) (hi : i < n) (hcp : n + 1 ≤ cp) (hcm : cp ≤ maxLen)
    (hov : ∀ lb cb, (callFunc 70 #[.slice (some ⟨s, 0, none⟩) 1 1, .slice (some ⟨g, (i + 1) * 3, none⟩) lb cb]).run Try.prog w = .ok (.value (.bool false)) w)
    (hcpy1 : ∀ ty, (Builtin.copy_ #[22, 22] ty #[.slice (some ⟨g, (i + 1) * 3, none⟩) (n + 1 - (i + 1)) (cp - (i + 1)), .slice (some ⟨g, i * 3, none⟩) (n + 1 - i) (cp - i)]).run Try.prog w.drew = .ok (goInt ((n - i : Nat) : Int)) w1)
    (hcpy2 : ∀ ty, (Builtin.copy_ #[22, 22] ty #[.slice (some ⟨g, i * 3, none⟩) (n + 1 - i) (cp - i), .slice (some ⟨s, 0, none⟩) 1 1]).run Try.prog w1 = .ok (goInt 1) w2) :
    Calls Try.prog 49 #[.slice (some ⟨g, 0, none⟩) n cp, .int .i64 i, .slice (some ⟨s, 0, none⟩) 1 1] w fun e w' => e = .returned (.slice (some ⟨g, 0, none⟩) (n + 1) cp) ∧ w' = w2 := by
  have HC1 := Aside0.mk hcpy1
  have HC2 := Aside0.mk hcpy2
  have hcm' : cp ≤ 9223372036854775807 := hcm
  clear hcpy1 hcpy2 hcm
  have hw1 : IntKind.i64.wrap ((i : Int) + 1) = (i : Int) + 1 := by rw [IntKind.wrap_i64]; omega
  have hw2 : IntKind.i64.wrap ((n : Int) + 1) = (n : Int) + 1 := by rw [IntKind.wrap_i64]; omega
  have hb1 : (0 : Int) ≤ (i : Int) + 1 := by omega
  have hb0 : (i : Int) ≤ (n : Int) := by omega
  have hb5 : (i : Int) ≤ (n : Int) + 1 := by omega
  have hb3 : (i : Int) + 1 ≤ (n : Int) + 1 := by omega
  have htn : ((i : Int) + 1).toNat = i + 1 := by omega
  have htn2 : ((n : Int) + 1).toNat = n + 1 := by omega
  have hb2 : ¬ (cp = i + 1) := by omega
  have hb4 : ¬ (cp = i) := by omega
  have hin : i ≤ n := by omega
  go_enter Try.func49, Try.ntmps49
  go_upto_region 15 with (simp only [hov])
  (try go_frame)
  go_region_law (refine step_copy_runI rfl (.tmp 73) (.tmp 76) 22 22 rfl (.slice (some ⟨g, (i + 1) * 3, none⟩) (n + 1 - (i + 1)) (cp - (i + 1))) (.slice (some ⟨g, i * 3, none⟩) (n + 1 - i) (cp - i)) (by simp [Act.eval, Act.put]) (by simp [Act.eval, Act.put]) (HC1.out _) ?_)
  go_wp2_with (first | (refine wpList_copy_runI _ rfl (.tmp 80) (.tmp 81) 22 22 rfl (.slice (some ⟨g, i * 3, none⟩) (n + 1 - i) (cp - i)) (.slice (some ⟨s, 0, none⟩) 1 1) rfl rfl (HC2.out _) ?_))
  go_ret
  exact ⟨rfl, rfl⟩
/-- Not at the end, there is room. -/
theorem insert_room (xs : List S41) (x : S41) (s base g i cap : Nat) (rest : List Value) (w : World) (hI : Im w g cap (flat xs ++ rest)) (hs : w.heap[s]? = some (.cells #[.string x.f0, .bool x.f1, .string x.f2] 41)) (hne : s ≠ g) (hg : base ≤ g) (hl : xs.length ≤ 1000000) (hi : i < xs.length) (hcp : xs.length + 1 ≤ cap) :
    Calls Try.prog 49 #[.slice (some ⟨g, 0, none⟩) xs.length cap, .int .i64 i, .slice (some ⟨s, 0, none⟩) 1 1] w fun e w' => ∃ v' : Value, e = .returned v' ∧ Kd.R k41 41 w' base (fun _ => True) v' (xs.take i ++ x :: xs.drop i) ∧ Below base w w' := by
  have hslt := (Array.getElem?_eq_some_iff.1 hs).1
  have hlen : rest.length = (cap - xs.length) * 3 := by have := hI.2.1; rw [List.length_append, flat_length] at this; omega
  have hlt2 : (xs.take i).length = i := by rw [List.length_take]; omega
  have hdr : (flat (xs.drop i)).length = (xs.length - i) * 3 := by rw [flat_length, List.length_drop]
  have hov : ∀ lb cb, (callFunc 70 #[.slice (some ⟨s, 0, none⟩) 1 1, .slice (some ⟨g, (i + 1) * 3, none⟩) lb cb]).run Try.prog w = .ok (.value (.bool false)) w := fun lb cb => by
    rw [run_callFunc_extern Try.func70 (by kernel_rfl) (by kernel_rfl) (by kernel_rfl) (e := Extern.SlicesOverlaps.overlaps #[22, 22] #[4]) (by kernel_rfl),
      Lib.run_overlaps_apart w 22 4 41 Try.underlying22 3 size41 ⟨s, 0, none⟩ ⟨g, (i + 1) * 3, none⟩ 1 1 lb cb hne 41 41 3 (cap * 3) (by unfold World.shape?; rw [hs]; rfl) hI.shape (by omega) (by unfold World.frozen?; rw [hs]; rfl) (by unfold World.frozen?; rw [hs]; rfl)]
    rfl
  obtain ⟨y, hy⟩ : ∃ y, xs.drop i = y :: xs.drop (i + 1) := ⟨xs[i], List.drop_eq_getElem_cons hi⟩
  have e0 : flat xs ++ rest = flat (xs.take i ++ [y]) ++ (flat (xs.drop (i + 1)) ++ rest) := by
    rw [← List.append_assoc, ← flat_append, List.append_assoc, List.singleton_append, ← hy, List.take_append_drop]
  have hlt3 : (xs.take i ++ [y]).length = i + 1 := by rw [List.length_append, hlt2]; rfl
  have hd : ∀ base' W, Below base' W W.drew := fun _ W => (Below.refl _ W).drew
  have hID := hI.below (hd w.heap.size w)
  have hcpy1 : ∀ ty, (Builtin.copy_ #[22, 22] ty #[.slice (some ⟨g, (i + 1) * 3, none⟩) (xs.length + 1 - (i + 1)) (cap - (i + 1)), .slice (some ⟨g, i * 3, none⟩) (xs.length + 1 - i) (cap - i)]).run Try.prog w.drew = .ok (goInt ((xs.length - i : Nat) : Int)) (w.drew.setRow g (spliced (flat xs ++ rest) ((i + 1) * 3) (flat (xs.drop i))).toArray) := fun ty => by
    have hm : Nat.min (xs.length + 1 - i) (xs.length + 1 - (i + 1)) = xs.length - i := by rw [show xs.length + 1 - (i + 1) = xs.length - i by omega]; exact Nat.min_eq_right (by omega)
    have := run_copy41 hID ty ((i + 1) * 3) (xs.length + 1 - (i + 1)) (cap - (i + 1)) ⟨g, i * 3, none⟩ (xs.length + 1 - i) (cap - i) (flat (xs.drop i)) (by rw [hdr, hm]) (fun j v hj => by
      have h2 := hID.get (i * 3) ((xs.length - i) * 3) j v
      rw [List.drop_append_of_le_length (by rw [flat_length]; omega), flat_drop, List.take_append_of_le_length (by rw [hdr]; exact Nat.le_refl _), List.take_of_length_le (by rw [hdr]; exact Nat.le_refl _)] at h2
      exact h2 hj) (by rw [hdr, List.length_append, flat_length, hlen]; omega) (flat_one _)
    rwa [hm] at this
  have e1 : spliced (flat xs ++ rest) ((i + 1) * 3) (flat (xs.drop i)) = flat (xs.take i) ++ (cells3 y ++ (flat (xs.drop i) ++ rest.drop 3)) := by
    have := spliced_flat (xs.take i ++ [y]) (flat (xs.drop (i + 1)) ++ rest) (flat (xs.drop i))
    rw [hlt3] at this
    rw [e0, this, flat_append]
    have hd2 : (flat (xs.drop (i + 1)) ++ rest).drop (flat (xs.drop i)).length = rest.drop 3 := by
      rw [List.drop_append, List.drop_eq_nil_of_le (by rw [hdr, flat_length, List.length_drop]; omega), List.nil_append]
      congr 1
      rw [hdr, flat_length, List.length_drop]; omega
    rw [hd2]
    simp [flat, List.append_assoc]
  have hI1 := hID.put ((i + 1) * 3) (flat (xs.drop i)) (by rw [hdr, List.length_append, flat_length, hlen]; omega)
  rw [e1] at hcpy1 hI1
  obtain ⟨w1, hw1⟩ : ∃ w1, w1 = w.drew.setRow g (flat (xs.take i) ++ (cells3 y ++ (flat (xs.drop i) ++ rest.drop 3))).toArray := ⟨_, rfl⟩
  rw [← hw1] at hcpy1 hI1
  have hB1 : Below base w w1 := by rw [hw1]; exact below_row (Below.refl _ _).drew hg _
  have hs1 : w1.heap[s]? = some (.cells #[.string x.f0, .bool x.f1, .string x.f2] 41) := by rw [hw1, setRow_other _ _ _ _ hne]; exact hs
  have hcl : (cells3 y).length = 3 := rfl
  have hcpy2 : ∀ ty, (Builtin.copy_ #[22, 22] ty #[.slice (some ⟨g, i * 3, none⟩) (xs.length + 1 - i) (cap - i), .slice (some ⟨s, 0, none⟩) 1 1]).run Try.prog w1 = .ok (goInt 1) (w1.setRow g (spliced (flat (xs.take i) ++ (cells3 y ++ (flat (xs.drop i) ++ rest.drop 3))) (i * 3) (cells3 x)).toArray) := fun ty => by
    have hm : Nat.min 1 (xs.length + 1 - i) = 1 := Nat.min_eq_left (by omega)
    have := run_copy41 hI1 ty (i * 3) (xs.length + 1 - i) (cap - i) ⟨s, 0, none⟩ 1 1 (cells3 x) (by rw [hm]; rfl) (cells3_get hs1) (by rw [List.length_append, flat_length, hlt2, List.length_append, hcl]; show i * 3 + 3 ≤ _; omega) (cells3_one x)
    rwa [hm] at this
  have e2 : spliced (flat (xs.take i) ++ (cells3 y ++ (flat (xs.drop i) ++ rest.drop 3))) (i * 3) (cells3 x) = flat (xs.take i ++ x :: xs.drop i) ++ rest.drop 3 := by
    have := spliced_flat (xs.take i) (cells3 y ++ (flat (xs.drop i) ++ rest.drop 3)) (cells3 x)
    rw [hlt2] at this
    rw [this, show (cells3 x).length = (cells3 y).length from rfl, List.drop_left, flat_append, flat_cons]
    simp [List.append_assoc]
  have hI2 := hI1.put (i * 3) (cells3 x) (by rw [List.length_append, flat_length, hlt2, List.length_append, hcl]; show i * 3 + 3 ≤ _; omega)
  rw [e2] at hcpy2 hI2
  have hln : (xs.take i ++ x :: xs.drop i).length = xs.length + 1 := by simp; omega
  refine (insert_room_walk xs.length i cap g s w w1 _ hl hi hcp hI.2.2 hov hcpy1 hcpy2).mono ?_
  rintro e w' ⟨rfl, rfl⟩
  have := im_R (base := base) (ok := fun _ => True) hI2 (by rw [hln]; exact hcp) hg trivial
  rw [hln] at this
  exact ⟨_, rfl, this, below_row hB1 hg _⟩
/-- slices.Insert(row, i, x). -/
theorem insert_calls (xs : List S41) (x : S41) (s base i : Nat) (v : Value) (w : World) (hR : Kd.R k41 41 w base (fun k => k ≠ s) v xs) (hs : w.heap[s]? = some (.cells #[.string x.f0, .bool x.f1, .string x.f2] 41)) (hb : base ≤ w.heap.size) (hl : xs.length ≤ 1000000) (hi : i ≤ xs.length) :
    Calls Try.prog 49 #[v, .int .i64 i, .slice (some ⟨s, 0, none⟩) 1 1] w fun e w' => ∃ v' : Value, e = .returned v' ∧ Kd.R k41 41 w' base (fun _ => True) v' (xs.take i ++ x :: xs.drop i) ∧ Below base w w' := by
  by_cases he : i = xs.length
  · subst he
    rw [List.take_length, List.drop_length]
    exact insert_end xs x s base v w (Kd.R_mono hR (fun _ _ => trivial)) hs hb hl
  · have hi' : i < xs.length := by omega
    rcases R_im hR with ⟨rfl, _⟩ | ⟨g, cap, rest, rfl, hgs, hg, hlc, hI⟩
    · simp at hi'
    · by_cases hcp : xs.length + 1 ≤ cap
      · exact insert_room xs x s base g i cap rest w hI hs (Ne.symm hgs) hg hl hi' hcp
      · have hce : cap = xs.length := by omega
        subst hce
        have hr : rest = [] := by
          have := hI.2.1
          rw [List.length_append, flat_length] at this
          exact List.eq_nil_of_length_eq_zero (by omega)
        subst hr
        rw [List.append_nil] at hI
        exact insert_grow xs x s base g i w hI hs hb hl hi'
end Go.Proofs.Yteblpjnkinghoaa.J
/- The contract of slices.Delete at images, one element, of a row of the call's own. -/
namespace Go.Proofs.Yteblpjnkinghoaa.J
open Go.BigFrame Go.RowKit Go.Proofs.YteblpjnkinghoaaW.PrintWords Go.Proofs.YteblpjnkinghoaaW.PrintLast Go.Proofs.YteblpjnkinghoaaW.PrintMore
/-- An append whose run is known, as one step of a region that draws. -/
theorem step_append_runI {P : Program} {ops : Array Oper} {o : Oper} {a : Act} {w : World} {K : Act → World → Prop} {Q : Exit → Act → World → Prop} {E : Prop}
    (hg : o.guard = none) (d x : Operand) (dT sT : TypeId) (hop : o.op = Op.call { callee := Callee.builtin Builtin.append, args := #[d, x], argTypes := #[dT, sT] })
    (v u : Value) (hd : a.eval d = v) (hx : a.eval x = u) {v' : Value} {w' : World} (hr : (Builtin.append_ #[dT, sT] o.type #[v, u]).run P w = .ok v' w') (hK : K (a.put o.dst v') w') :
    if Region.wanted o (yielded ops a.tmps) = true then Oper.wp P o a w K Q else E := by
  have hw : Region.wanted o (yielded ops a.tmps) = true := by simp [Region.wanted, hg]
  rw [if_pos hw]
  unfold Oper.wp
  simp [execOp, hop, resolve, invoke, builtin, hd, hx, hr, Result.andThen]
  exact hK
/-- A clear whose run is known. -/
theorem wpList_clear_runI {P : Program} (w : World) {ops : Array Oper} {rest : List Oper} {o : Oper} {a : Act} {Q : Exit → Act → World → Prop} (hgd : o.guard = none) (d : Operand) (t : TypeId)
    (ho : o.op = .call { callee := .builtin .clear, args := #[d], argTypes := #[t] }) (v : Value) (hd : a.eval d = v) {v' : Value} {w' : World}
    (hr : (Builtin.clear_ #[t] o.type #[v]).run P w = .ok v' w') (h : wpList P ops Q rest (a.put o.dst v') w') : wpList P ops Q (o :: rest) a w :=
  wpList_plain hgd fun _ hK => by
    unfold Oper.wp execOp
    simp only [ho, resolve, invoke, builtin, Sem.run_bind, Sem.run_pure, Result.andThen_ok, List.map_toArray, List.map_cons, List.map_nil, hd, hr]
    exact hK _ _ h
set_option maxHeartbeats 4000000 in
set_option maxRecDepth 100000 in
/-- The walk; there is something behind the row's one. -/
theorem delete_walk (n i cp g : Nat) (w w1 w2 : World) (hn : n ≤ 1000000) (hi : i < n) (hcp : n ≤ cp) (hcm : cp ≤ maxLen) (hb2 : ¬ (cp = i + 1))
    (happ : ∀ ty, (Builtin.append_ #[22, 22] ty #[.slice (some ⟨g, 0, none⟩) i cp, .slice (some ⟨g, (i + 1) * 3, none⟩) (n - (i + 1)) (cp - (i + 1))]).run Try.prog w.drew = .ok (.slice (some ⟨g, 0, none⟩) (n - 1) cp) w1)
    (hclr : ∀ ty, (Builtin.clear_ #[22] ty #[.slice (some ⟨g, (n - 1) * 3, none⟩) 1 (cp - (n - 1))]).run Try.prog w1 = .ok (.tuple #[]) w2) :
    Calls Try.prog 50 #[.slice (some ⟨g, 0, none⟩) n cp, .int .i64 i, .int .i64 ((i : Int) + 1)] w fun e w' => e = .returned (.slice (some ⟨g, 0, none⟩) (n - 1) cp) ∧ w' = w2 := by
  have HC1 := Aside0.mk happ
  have HC2 := Aside0.mk hclr
  have hcm' : cp ≤ 9223372036854775807 := hcm
  clear happ hclr hcm
  have hb1 : (0 : Int) ≤ (i : Int) + 1 := by omega
  have hb0 : (i : Int) ≤ (n : Int) := by omega
  have hb3 : (i : Int) + 1 ≤ (n : Int) := by omega
  have htn : ((i : Int) + 1).toNat = i + 1 := by omega
  have hb4 : ¬ (cp = i) := by omega
  have hb6 : ((i : Int) == (i : Int) + 1) = false := by rw [Bool.eq_false_iff]; simp; omega
  have hb7 : ¬ ((i : Int) = (i : Int) + 1) := by omega
  have hin : i ≤ n := by omega
  have hb8 : (i : Int) ≤ (cp : Int) := by omega
  have hb9 : i ≤ cp := by omega
  go_enter Try.func50, Try.ntmps50
  go_upto_region 5 with (fail)
  go_region_law (refine step_append_runI rfl (.tmp 22) (.tmp 25) 22 22 rfl (.slice (some ⟨g, 0, none⟩) i cp) (.slice (some ⟨g, (i + 1) * 3, none⟩) (n - (i + 1)) (cp - (i + 1))) (by simp [Act.eval, Act.put]) (by simp [Act.eval, Act.put]) (HC1.out _) ?_)
  obtain ⟨m, rfl⟩ : ∃ m, n = m + 1 := ⟨n - 1, by omega⟩
  simp only [Nat.add_sub_cancel] at HC2 ⊢
  have hm1 : (0 : Int) ≤ (m : Int) := by omega
  have hm2 : (m : Int) ≤ (m : Int) + 1 := by omega
  have hm3 : (m : Int) + 1 ≤ (cp : Int) := by omega
  have hm4 : ¬ (cp = m) := by omega
  have hm5 : m + 1 - m = 1 := by omega
  go_wp2_with (first | (refine wpList_clear_runI _ rfl (.tmp 31) 22 rfl (.slice (some ⟨g, m * 3, none⟩) 1 (cp - m)) ?hd (HC2.out _) ?_; (case hd => simp [Act.eval, Act.put])))
  go_ret
  exact ⟨rfl, rfl⟩
set_option maxHeartbeats 4000000 in
set_option maxRecDepth 100000 in
/-- The walk; the row is full, its last goes. -/
theorem delete_walk_last (i g : Nat) (w w1 w2 : World) (hn : i ≤ 1000000)
    (happ : ∀ ty, (Builtin.append_ #[22, 22] ty #[.slice (some ⟨g, 0, none⟩) i (i + 1), .slice (some ⟨g, 0, none⟩) 0 0]).run Try.prog w.drew = .ok (.slice (some ⟨g, 0, none⟩) i (i + 1)) w1)
    (hclr : ∀ ty, (Builtin.clear_ #[22] ty #[.slice (some ⟨g, i * 3, none⟩) 1 1]).run Try.prog w1 = .ok (.tuple #[]) w2) :
    Calls Try.prog 50 #[.slice (some ⟨g, 0, none⟩) (i + 1) (i + 1), .int .i64 i, .int .i64 ((i : Int) + 1)] w fun e w' => e = .returned (.slice (some ⟨g, 0, none⟩) i (i + 1)) ∧ w' = w2 := by
  have HC1 := Aside0.mk happ
  have HC2 := Aside0.mk hclr
  clear happ hclr
  have hb1 : (0 : Int) ≤ (i : Int) + 1 := by omega
  have hb0 : (i : Int) ≤ (i : Int) + 1 := by omega
  have htn : ((i : Int) + 1).toNat = i + 1 := by omega
  have hb4 : ¬ (i + 1 = i) := by omega
  have hb6 : ((i : Int) == (i : Int) + 1) = false := by rw [Bool.eq_false_iff]; simp; omega
  have hb7 : ¬ ((i : Int) = (i : Int) + 1) := by omega
  have hb9 : i ≤ i + 1 := by omega
  have hm5 : i + 1 - i = 1 := by omega
  go_enter Try.func50, Try.ntmps50
  go_upto_region 5 with (fail)
  go_region_law (refine step_append_runI rfl (.tmp 22) (.tmp 25) 22 22 rfl (.slice (some ⟨g, 0, none⟩) i (i + 1)) (.slice (some ⟨g, 0, none⟩) 0 0) (by simp [Act.eval, Act.put]) (by simp [Act.eval, Act.put]) (HC1.out _) ?_)
  go_wp2_with (first | (refine wpList_clear_runI _ rfl (.tmp 31) 22 rfl (.slice (some ⟨g, i * 3, none⟩) 1 1) ?hd (HC2.out _) ?_; (case hd => simp [Act.eval, Act.put])))
  go_ret
  exact ⟨rfl, rfl⟩
/-- append(s[:i], s[i + 1:]...): in place. -/
theorem run_append41_room {w : World} {g cap : Nat} {cs : List Value} (h : Im w g cap cs) (ty : TypeId) (sLen m c : Nat) (a : Addr) (vs : List Value) (hl : vs.length = m * 3) (hn : ∀ j u, vs[j]? = some u → w.cell? (a.add j) = some u) (h1 : ∀ u ∈ vs, u.oneCell' = true)
    (hroom : sLen + m ≤ cap) : (Builtin.append_ #[22, 22] ty #[.slice (some ⟨g, 0, none⟩) sLen cap, .slice (some a) m c]).run Try.prog w = .ok (.slice (some ⟨g, 0, none⟩) (sLen + m) cap) (w.setRow g (spliced cs (sLen * 3) vs).toArray) := by
  obtain ⟨i, hi, hz, _, _⟩ := info41p
  have := run_append_room (P := Try.prog) w 22 ty 41 i Try.underlying22 hi g sLen cap cs.toArray h.1 a m c vs (by rw [hl, hz]) hn h1 hroom (by rw [hl, hz, List.size_toArray, h.2.1]; omega)
  rw [hz] at this
  exact this
/-- slices.Delete(row, i, i + 1). -/
theorem delete_calls (xs : List S41) (base i : Nat) (v : Value) (w : World) (hR : Kd.R k41 41 w base (fun _ => True) v xs) (hl : xs.length ≤ 1000000) (hi : i < xs.length) :
    Calls Try.prog 50 #[v, .int .i64 i, .int .i64 ((i : Int) + 1)] w fun e w' => ∃ v' : Value, e = .returned v' ∧ Kd.R k41 41 w' base (fun _ => True) v' (xs.take i ++ xs.drop (i + 1)) ∧ Below base w w' := by
  rcases R_im hR with ⟨rfl, _⟩ | ⟨g, cap, rest, rfl, _, hg, hlc, hI⟩
  · simp at hi
  have hlen : rest.length = (cap - xs.length) * 3 := by have := hI.2.1; rw [List.length_append, flat_length] at this; omega
  have hlt2 : (xs.take i).length = i := by rw [List.length_take]; omega
  have hdr : (flat (xs.drop (i + 1))).length = (xs.length - (i + 1)) * 3 := by rw [flat_length, List.length_drop]
  have hID := hI.below ((Below.refl w.heap.size w).drew)
  obtain ⟨y, hy⟩ : ∃ y, xs.drop i = y :: xs.drop (i + 1) := ⟨xs[i], List.drop_eq_getElem_cons hi⟩
  have e0 : flat xs ++ rest = flat (xs.take i) ++ (flat (xs.drop i) ++ rest) := by rw [← List.append_assoc, ← flat_append, List.take_append_drop]
  have hln : (xs.take i ++ xs.drop (i + 1)).length = xs.length - 1 := by rw [List.length_append, hlt2, List.length_drop]; omega
  -- what is left behind the row's new end: the cells of one image, then what was spare
  obtain ⟨L, hL3, e1⟩ : ∃ L : List Value, L.length = 3 ∧ spliced (flat xs ++ rest) (i * 3) (flat (xs.drop (i + 1))) = flat (xs.take i ++ xs.drop (i + 1)) ++ (L ++ rest) := by
    have h1 := spliced_flat (xs.take i) (flat (xs.drop i) ++ rest) (flat (xs.drop (i + 1)))
    rw [hlt2] at h1
    have hld : (flat (xs.drop i)).length = (xs.length - i) * 3 := by rw [flat_length, List.length_drop]
    refine ⟨(flat (xs.drop i)).drop (flat (xs.drop (i + 1))).length, ?_, ?_⟩
    · rw [List.length_drop, hdr, hld]; omega
    · rw [e0, h1, flat_append, List.drop_append_of_le_length (by rw [hdr, hld]; omega)]
  have hI1 := hID.put (i * 3) (flat (xs.drop (i + 1))) (by rw [hdr, List.length_append, flat_length, hlen]; omega)
  rw [e1] at hI1
  obtain ⟨w1, hw1⟩ : ∃ w1, w1 = w.drew.setRow g (flat (xs.take i ++ xs.drop (i + 1)) ++ (L ++ rest)).toArray := ⟨_, rfl⟩
  rw [← hw1] at hI1
  have hB1 : Below base w w1 := by rw [hw1]; exact below_row (Below.refl _ _).drew hg _
  have hz : (Builtin.zeroCells (Value.agg #[(.string ⟨#[]⟩), (.bool false), (.string ⟨#[]⟩)]).cells 1).toList.length = 3 := by rw [Array.length_toList, zeroCells3_length]
  have hlf : (xs.length - 1) * 3 + 1 * 3 ≤ (flat (xs.take i ++ xs.drop (i + 1)) ++ (L ++ rest)).length := by rw [List.length_append, flat_length, hln, List.length_append, hL3]; omega
  have hclr : ∀ ty c, (Builtin.clear_ #[22] ty #[.slice (some ⟨g, (xs.length - 1) * 3, none⟩) 1 c]).run Try.prog w1 = _ := fun ty c => run_clear41 hI1 ty ((xs.length - 1) * 3) 1 c (by decide) hlf
  have hI2 := hI1.put ((xs.length - 1) * 3) (Builtin.zeroCells (Value.agg #[(.string ⟨#[]⟩), (.bool false), (.string ⟨#[]⟩)]).cells 1).toList (by rw [hz]; exact hlf)
  have e2 := spliced_flat (xs.take i ++ xs.drop (i + 1)) (L ++ rest) (Builtin.zeroCells (Value.agg #[(.string ⟨#[]⟩), (.bool false), (.string ⟨#[]⟩)]).cells 1).toList
  rw [hln] at e2
  rw [e2, List.append_assoc] at hI2
  rw [e2] at hclr
  have hfin : ∀ w', w' = w1.setRow g (flat (xs.take i ++ xs.drop (i + 1)) ++ (Builtin.zeroCells (Value.agg #[(.string ⟨#[]⟩), (.bool false), (.string ⟨#[]⟩)]).cells 1).toList ++ (L ++ rest).drop (Builtin.zeroCells (Value.agg #[(.string ⟨#[]⟩), (.bool false), (.string ⟨#[]⟩)]).cells 1).toList.length).toArray →
      Kd.R k41 41 w' base (fun _ => True) (.slice (some ⟨g, 0, none⟩) (xs.length - 1) cap) (xs.take i ++ xs.drop (i + 1)) ∧ Below base w w' := fun w' hw' => by
    subst hw'
    have := im_R (base := base) (ok := fun _ => True) (w := w1.setRow g (flat (xs.take i ++ xs.drop (i + 1)) ++ (Builtin.zeroCells (Value.agg #[(.string ⟨#[]⟩), (.bool false), (.string ⟨#[]⟩)]).cells 1).toList ++ (L ++ rest).drop (Builtin.zeroCells (Value.agg #[(.string ⟨#[]⟩), (.bool false), (.string ⟨#[]⟩)]).cells 1).toList.length).toArray) (by rw [List.append_assoc]; exact hI2) (by rw [hln]; omega) hg trivial
    rw [hln] at this
    exact ⟨this, below_row hB1 hg _⟩
  by_cases hc : cap = i + 1
  · have hxl : xs.length = i + 1 := by omega
    have happ : ∀ ty, (Builtin.append_ #[22, 22] ty #[.slice (some ⟨g, 0, none⟩) i (i + 1), .slice (some ⟨g, 0, none⟩) 0 0]).run Try.prog w.drew = .ok (.slice (some ⟨g, 0, none⟩) i (i + 1)) w1 := fun ty => by
      have hnil : xs.drop (i + 1) = [] := List.drop_eq_nil_of_le (by omega)
      have := run_append41_room hID ty i 0 0 ⟨g, 0, none⟩ [] rfl (by simp) (by simp) (by omega)
      rw [hnil] at e1
      rw [show flat ([] : List S41) = [] from rfl] at e1
      rw [e1, Nat.add_zero, hc] at this
      rw [hw1, hnil]
      exact this
    rw [hxl, hc]
    refine (delete_walk_last i g w w1 _ (by omega) happ (fun ty => by have := hclr ty 1; rw [hxl, Nat.add_sub_cancel] at this; exact this)).mono ?_
    rintro e w' ⟨rfl, hw'⟩
    have := hfin w' hw'
    rw [hxl, Nat.add_sub_cancel, hc] at this
    exact ⟨_, rfl, this⟩
  · have happ : ∀ ty, (Builtin.append_ #[22, 22] ty #[.slice (some ⟨g, 0, none⟩) i cap, .slice (some ⟨g, (i + 1) * 3, none⟩) (xs.length - (i + 1)) (cap - (i + 1))]).run Try.prog w.drew = .ok (.slice (some ⟨g, 0, none⟩) (xs.length - 1) cap) w1 := fun ty => by
      have := run_append41_room hID ty i (xs.length - (i + 1)) (cap - (i + 1)) ⟨g, (i + 1) * 3, none⟩ (flat (xs.drop (i + 1))) hdr (fun j u hj => by
        have h2 := hID.get ((i + 1) * 3) ((xs.length - (i + 1)) * 3) j u
        rw [List.drop_append_of_le_length (by rw [flat_length]; omega), flat_drop, List.take_append_of_le_length (by rw [hdr]; exact Nat.le_refl _), List.take_of_length_le (by rw [hdr]; exact Nat.le_refl _)] at h2
        exact h2 hj) (flat_one _) (by omega)
      rw [e1, show i + (xs.length - (i + 1)) = xs.length - 1 by omega, ← hw1] at this
      exact this
    refine (delete_walk xs.length i cap g w w1 _ hl hi hlc hI.2.2 hc happ (fun ty => hclr ty _)).mono ?_
    rintro e w' ⟨rfl, hw'⟩
    exact ⟨_, rfl, hfin w' hw'⟩
end Go.Proofs.Yteblpjnkinghoaa.J
/- The contracts of slices.ContainsFunc, slices.Clone and slices.BinarySearchFunc at images, as journal.Apply calls them. -/
namespace Go.Proofs.Yteblpjnkinghoaa.J
open Go.BigFrame Go.RowKit Go.Proofs.YteblpjnkinghoaaW.PrintWords Go.Proofs.YteblpjnkinghoaaW.PrintLast Go.Proofs.YteblpjnkinghoaaW.PrintMore
theorem not_img_calls (x : S41) (w : World) : Calls Try.prog 43 #[.agg #[.string x.f0, .bool x.f1, .string x.f2]] w fun e w' => e = .returned (.bool (!img x)) ∧ Below w.heap.size w w' := by
  have hnot : ∀ (x : Bool) (w : World), (Op.unary .not (.bool x)).run Try.prog w = .ok (.bool (!x)) w := fun _ _ => rfl
  go_enter Try.func43, Try.ntmps43
  go_wp2_with fail
  refine (img_calls x _).mono ?_
  rintro e w1 ⟨rfl, hb⟩
  go_wp2
  go_ret
  exact ⟨rfl, below_step ((Below.refl _ _).alloc (Nat.le_refl _) _) hb⟩
/-- The first image of which p holds, from k on. -/
def idx41 (p : S41 → Bool) : List S41 → Int → Int
  | [], _ => -1
  | n :: l, k => if p n then k else idx41 p l (k + 1)
theorem idx41_any (p : S41 → Bool) : ∀ (l : List S41) (k : Int), 0 ≤ k → decide (0 ≤ idx41 p l k) = l.any p
  | [], _, _ => rfl
  | n :: l, k, h => by
    unfold idx41
    rw [List.any_cons]
    cases hp : p n
    · simpa using idx41_any p l (k + 1) (by omega)
    · simp [h]
theorem index41_calls (A0 : Option Addr) (c0 : Nat) (l0 : List S41) (w : World) (hr0 : Kd.C k41 w A0 l0.length l0) :
    Calls Try.prog 68 #[.slice A0 l0.length c0, .func (.func 43) #[] #[]] w fun e w' => e = .returned (.int .i64 (idx41 (fun n => !img n) l0 0)) ∧ Below w.heap.size w w' := by
  have HR0 := Aside0.mk hr0
  have hlm : l0.length ≤ 9223372036854775807 := Kd.C_max hr0
  clear hr0
  go_enter Try.func68, Try.ntmps68
  go_wp2
  go_loopg [8] (l0.length + 1) (fun kq v8 w' => ∃ k : Nat, k ≤ l0.length ∧ v8 = .int .i64 k ∧ Aside0 (kq + k = l0.length + 1) ∧ Aside0 (idx41 (fun n => !img n) l0 0 = idx41 (fun n => !img n) (l0.drop k) k) ∧ Aside0 (Below w.heap.size w w'))
  case atStart => exact ⟨0, Nat.zero_le _, rfl, ⟨by omega⟩, ⟨by simp⟩, ⟨Below.refl _ _⟩⟩
  case round =>
    obtain ⟨k, hk, rfl, HQ, HX, HB⟩ := hrel
    by_cases hlt : k < l0.length
    · obtain ⟨ad, rfl, h0, h1, h2⟩ := at_T41 (Kd.C_below HR0.out HB.out) (k : Int) (by omega) (by omega)
      rw [Int.toNat_natCast] at h0 h1 h2
      have hd := drop_rd41 hlt
      generalize rd_T41 l0 (k : Int) = n at h0 h1 h2 hd
      have HX' := Aside0.mk (HX.out.trans (congrArg (fun l => idx41 (fun n => !img n) l k) hd))
      clear hd HX
      have HC := Aside0.mk (fun w => not_img_calls n w)
      cases hv : img n
      · rw [hv] at HC
        have HY := Aside0.mk (HX'.out.trans (show idx41 (fun n => !img n) (n :: l0.drop (k + 1)) k = k by unfold idx41; rw [hv]; rfl))
        clear hv HX'
        go_wp2_with (go_at_call 43; refine (HC.out _).mono ?_; rintro e w1 ⟨rfl, hb⟩)
        go_ret
        exact ⟨by rw [HY.out]; rfl, below_step HB.out hb⟩
      · rw [hv] at HC
        have HY := Aside0.mk (HX'.out.trans (show idx41 (fun n => !img n) (n :: l0.drop (k + 1)) k = idx41 (fun n => !img n) (l0.drop (k + 1)) (k + 1) by rw [idx41]; rw [hv]; rfl))
        clear hv HX'
        go_wp2_with (go_at_call 43; refine (HC.out _).mono ?_; rintro e w1 ⟨rfl, hb⟩)
        go_roundg (gk - 1)
        case measure => have := HQ.out; omega
        case rel => exact ⟨k + 1, by omega, by go_num, ⟨by have := HQ.out; omega⟩, ⟨by rw [HY.out]; rfl⟩, ⟨below_step HB.out hb⟩⟩
    · have hke : k = l0.length := by omega
      subst hke
      have HY := Aside0.mk (HX.out.trans (show idx41 (fun n => !img n) (l0.drop l0.length) l0.length = -1 by rw [List.drop_length]; rfl))
      clear HX
      go_wp2
      go_ret
      exact ⟨by rw [HY.out]; rfl, HB.out⟩
theorem contains41_calls (A0 : Option Addr) (c0 : Nat) (l0 : List S41) (w : World) (hr0 : Kd.C k41 w A0 l0.length l0) :
    Calls Try.prog 42 #[.slice A0 l0.length c0, .func (.func 43) #[] #[]] w fun e w' => e = .returned (.bool (!l0.all img)) ∧ Below w.heap.size w w' := by
  have HR0 := Aside0.mk hr0
  clear hr0
  have HI := Aside0.mk ((idx41_any (fun n => !img n) l0 0 (by omega)).trans (show l0.any (fun n => !img n) = !l0.all img by rw [List.all_eq_not_any_not, Bool.not_not]))
  go_enter Try.func42, Try.ntmps42
  go_wp2_with (go_at_call 68; refine (index41_calls _ _ _ _ HR0.out).mono ?_; rintro e w1 ⟨rfl, hb⟩)
  go_ret
  exact ⟨by rw [← HI.out]; rfl, hb⟩
set_option maxRecDepth 100000 in
/-- slices.Clone. -/
theorem clone_calls (A0 : Option Addr) (c0 : Nat) (l0 : List S41) (w : World) (hr0 : Kd.C k41 w A0 l0.length l0) (hl : l0.length ≤ 1000000) :
    Calls Try.prog 45 #[.slice A0 l0.length c0] w fun e w' => ∃ v : Value, e = .returned v ∧ Kd.R k41 41 w' w.heap.size (fun _ => True) v l0 ∧ Below w.heap.size w w' := by
  have q22 : ∀ (w : World) (a : Option Addr) (n c n' c' : Nat), (binOp .eql 22 (.slice a n c) (.slice none n' c')).run Try.prog w = .ok (.bool a.isNone) w := fun w a n c n' c' => Lib.run_eql_slice_nil w _ _ a n c n' c' Try.underlying22
  cases A0 with
  | none =>
    have h0 : l0 = [] := by
      cases l0 with
      | nil => rfl
      | cons x l => obtain ⟨ad, h, _⟩ := hr0.2.2 (by simp); cases h
    subst h0
    clear hr0
    go_enter Try.func45, Try.ntmps45
    go_wp2
    go_ret
    exact ⟨_, rfl, Kd.R_nil _ _ _ _ _, Below.refl _ _⟩
  | some ad =>
    have HR0 := Aside0.mk hr0
    clear hr0
    go_enter Try.func45, Try.ntmps45
    go_wp2_with (first | (at_builtin; refine Kd.R_append_rows k41 (Rr := k41.K w) (w0 := w) w.heap.size rfl (.tmp 5) (.tmp 6) 22 41 (.agg #[(.string ⟨#[]⟩), (.bool false), (.string ⟨#[]⟩)]) 40 rfl Try.underlying22 info41 rfl (by decide) (by decide) _ [] l0 (some ad) l0.length c0 (fun _ => True) (fun _ => False) rfl rfl ?aO ?aR ?aK (fun _ hk => hk.elim) (fun _ _ => trivial) ?aB ?aS ?aL ?_; (case aO => exact R_lit0 w w.heap.size _ (Nat.le_refl _) trivial); (case aR => exact ReadsRow.imp_ HR0.out ((Below.refl _ _).alloc (Nat.le_refl _) _) (fun _ _ hp => hp)); (case aK => exact fun x cs hx => k41_KM _ _ _ x cs hx); (case aB => exact (Below.refl _ _).alloc (Nat.le_refl _) _); (case aS => simp); (case aL => simp; omega); intro v1 w1 ho hb _ _; rw [List.nil_append] at ho))
    go_ret
    exact ⟨_, rfl, ho, hb⟩
/-- strings.Compare's number. -/
def cmpV (a b : ByteArray) : Int := Lib.compareBytes a.data.toList b.data.toList
theorem compare0_calls (a b : ByteArray) (w : World) : Calls Try.prog 69 #[.string a, .string b] w fun e w' => e = .returned (.int .i64 (cmpV a b)) ∧ Below w.heap.size w w' := by
  have hc : (callFunc 84 #[.string a, .string b]).run Try.prog w = .ok (.value (.int .i64 (cmpV a b))) w := by
    rw [run_callFunc_extern Try.func84 (by kernel_rfl) (by kernel_rfl) (by kernel_rfl) (e := Extern.BytealgCompare.compare) (by kernel_rfl), Lib.run_compareString]
    rfl
  go_enter Try.func69, Try.ntmps69
  go_wp2_with (simp only [hc])
  go_ret
  exact ⟨rfl, Below.refl _ _⟩
theorem compare_calls (a b : ByteArray) (w : World) : Calls Try.prog 48 #[.string a, .string b] w fun e w' => e = .returned (.int .i64 (cmpV a b)) ∧ Below w.heap.size w w' := by
  go_enter Try.func48, Try.ntmps48
  go_wp2_with fail
  refine (compare0_calls a b _).mono ?_
  rintro e w1 ⟨rfl, hb⟩
  go_wp2
  go_ret
  exact ⟨rfl, hb⟩
theorem cmp_calls (x : S41) (k : ByteArray) (w : World) : Calls Try.prog 47 #[.agg #[.string x.f0, .bool x.f1, .string x.f2], .string k] w fun e w' => e = .returned (.int .i64 (cmpV x.f0 k)) ∧ Below w.heap.size w w' := by
  go_enter Try.func47, Try.ntmps47
  go_wp2_with fail
  refine (compare_calls x.f0 k _).mono ?_
  rintro e w1 ⟨rfl, hb⟩
  go_wp2
  go_ret
  exact ⟨rfl, below_step ((Below.refl _ _).alloc (Nat.le_refl _) _) hb⟩
theorem cmpB_less : ∀ (a b : List UInt8), decide (Lib.compareBytes a b < 0) = Op.bytesLess a b
  | [], [] => rfl
  | [], _ :: _ => rfl
  | _ :: _, [] => rfl
  | x :: a, y :: b => by
    unfold Lib.compareBytes Op.bytesLess
    by_cases h1 : x < y
    · simp [h1]
    · by_cases h2 : y < x
      · have hne : ¬ (x = y) := fun e => by subst e; exact h1 h2
        simp [h1, h2, hne]
      · have he : x = y := UInt8.le_antisymm (UInt8.not_lt.1 h2) (UInt8.not_lt.1 h1)
        subst he
        simp [h1, cmpB_less a b]
theorem cmpB_eq : ∀ (a b : List UInt8), Lib.compareBytes a b = 0 ↔ a = b
  | [], [] => by simp [Lib.compareBytes]
  | [], _ :: _ => by simp [Lib.compareBytes]
  | _ :: _, [] => by simp [Lib.compareBytes]
  | x :: a, y :: b => by
    unfold Lib.compareBytes
    by_cases h1 : x < y
    · have hne : ¬ (x = y) := fun e => by subst e; exact UInt8.lt_irrefl _ h1
      simp [h1, hne]
    · by_cases h2 : y < x
      · have hne : ¬ (x = y) := fun e => by subst e; exact h1 h2
        simp [h1, h2, hne]
      · have he : x = y := UInt8.le_antisymm (UInt8.not_lt.1 h2) (UInt8.not_lt.1 h1)
        subst he
        simp [h1, cmpB_eq a b]
theorem cmpV_less (a b : ByteArray) : decide (cmpV a b < 0) = kless a b := by
  unfold cmpV kless
  rw [cmpB_less, ByteArray.toList_eq, ByteArray.toList_eq]
theorem cmpV_eq (a b : ByteArray) : cmpV a b = 0 ↔ a = b := by
  unfold cmpV
  rw [cmpB_eq]
  cases a; cases b
  simp
/-- Where a key's place is. -/
def kpos (xs : List S41) (k : ByteArray) : Nat := (xs.takeWhile fun y => kless y.f0 k).length
def kthere (xs : List S41) (k : ByteArray) : Bool := decide (kpos xs k < xs.length) && decide ((rd_T41 xs (kpos xs k)).f0 = k)
set_option maxHeartbeats 1000000 in
set_option maxRecDepth 100000 in
/-- slices.BinarySearchFunc, where what stands before the key's place stands at the beginning. -/
theorem search_calls (xs : List S41) (key : ByteArray) (A : Option Addr) (c : Nat) (w : World) (hC : Kd.C k41 w A xs.length xs) (hl : xs.length ≤ 1000000)
    (hs : ∀ t, kpos xs key ≤ t → t < xs.length → kless (rd_T41 xs (t : Int)).f0 key = false) :
    Calls Try.prog 46 #[.slice A xs.length c, .string key, .func (.func 47) #[] #[]] w fun e w' => e = .returned (.tuple #[.int .i64 (kpos xs key), .bool (kthere xs key)]) ∧ Below w.heap.size w w' := by
  have HC := Aside0.mk hC
  have HS := Aside0.mk hs
  have HT := Aside0.mk (show kthere xs key = (decide (kpos xs key < xs.length) && decide ((rd_T41 xs (kpos xs key)).f0 = key)) from rfl)
  have HW := Aside0.mk (show ∀ t, t < kpos xs key → kless (rd_T41 xs (t : Int)).f0 key = true from fun t ht => tw_at (fun y => kless y.f0 key) xs t ht)
  have hk : kpos xs key ≤ xs.length := tw_le _ _
  clear hC hs
  generalize kpos xs key = kp at *
  generalize kthere xs key = th at *
  go_enter Try.func46, Try.ntmps46
  go_wp2
  go_loopg [9, 10] (xs.length + 1) (fun kq v9 v10 w' => ∃ i j : Nat, v9 = .int .i64 i ∧ v10 = .int .i64 j ∧ i ≤ kp ∧ kp ≤ j ∧ j ≤ xs.length ∧ Aside0 (kq + i = j + 1) ∧ Aside0 (Below w.heap.size w w'))
  case atStart => exact ⟨0, xs.length, rfl, rfl, by omega, hk, by omega, ⟨by omega⟩, ⟨Below.refl _ _⟩⟩
  case round =>
    obtain ⟨i, j, rfl, rfl, hi, hj, hjn, HQ, HB⟩ := hrel
    by_cases hlt : i < j
    · go_upto_region 5 with (fail)
      obtain ⟨h, hh⟩ : ∃ h : Nat, ((i : Int) + (j : Int)) / 2 = h := ⟨(i + j) / 2, by omega⟩
      have hih : i ≤ h := by omega
      have hhj : h < j := by omega
      simp only [hh]
      clear hh
      obtain ⟨ad, rfl, h0, h1, h2⟩ := at_T41 (Kd.C_below HC.out HB.out) (h : Int) (by omega) (by omega)
      rw [Int.toNat_natCast] at h0 h1 h2
      by_cases hkk : h < kp
      · have hv : kless (rd_T41 xs (h : Int)).f0 key = true := HW.out h hkk
        generalize rd_T41 xs (h : Int) = x at h0 h1 h2 hv
        have hcv : decide (cmpV x.f0 key < 0) = true := by rw [cmpV_less]; exact hv
        have HCL := Aside0.mk (fun w => cmp_calls x key w)
        clear hv
        generalize cmpV x.f0 key = cv at HCL hcv
        go_wp2_with (go_at_call 47; refine (HCL.out _).mono ?_; rintro e w1 ⟨rfl, hb⟩)
        go_roundg (j - h)
        case measure => have := HQ.out; omega
        case rel => exact ⟨h + 1, j, by go_num, rfl, by omega, by omega, by omega, ⟨by omega⟩, ⟨below_step HB.out hb⟩⟩
      · have hv : kless (rd_T41 xs (h : Int)).f0 key = false := HS.out h (by omega) (by omega)
        generalize rd_T41 xs (h : Int) = x at h0 h1 h2 hv
        have hcv : decide (cmpV x.f0 key < 0) = false := by rw [cmpV_less]; exact hv
        have HCL := Aside0.mk (fun w => cmp_calls x key w)
        clear hv
        generalize cmpV x.f0 key = cv at HCL hcv
        go_wp2_with (go_at_call 47; refine (HCL.out _).mono ?_; rintro e w1 ⟨rfl, hb⟩)
        go_roundg (h - i + 1)
        case measure => have := HQ.out; omega
        case rel => exact ⟨i, h, rfl, rfl, by omega, by omega, by omega, ⟨by omega⟩, ⟨below_step HB.out hb⟩⟩
    · have : i = kp := by omega
      subst this
      by_cases hlt2 : i < xs.length
      · obtain ⟨ad, rfl, h0, h1, h2⟩ := at_T41 (Kd.C_below HC.out HB.out) (i : Int) (by omega) (by omega)
        rw [Int.toNat_natCast] at h0 h1 h2
        have HT2 := Aside0.mk (show th = decide ((rd_T41 xs (i : Int)).f0 = key) by rw [HT.out, decide_eq_true hlt2, Bool.true_and])
        generalize rd_T41 xs (i : Int) = x at h0 h1 h2 HT2
        have hcv : (cmpV x.f0 key == 0) = th := by rw [HT2.out, Bool.eq_iff_iff]; simp [cmpV_eq]
        have HCL := Aside0.mk (fun w => cmp_calls x key w)
        clear HT HT2
        have d1 : decide ((i : Int) < (xs.length : Int)) = true := decide_eq_true (by omega)
        generalize cmpV x.f0 key = cv at HCL hcv
        go_wp2_with (go_at_call 47; refine (HCL.out _).mono ?_; rintro e w1 ⟨rfl, hb⟩)
        go_ret2
        exact ⟨rfl, below_step HB.out hb⟩
      · have ht : th = false := by rw [HT.out, decide_eq_false hlt2, Bool.false_and]
        subst ht
        clear HT
        have d1 : decide ((i : Int) < (xs.length : Int)) = false := decide_eq_false (by omega)
        go_wp2
        go_ret2
        exact ⟨rfl, HB.out⟩
end Go.Proofs.Yteblpjnkinghoaa.J
/- The order of keys, and what an image does to a sorted state. -/
namespace Go.Proofs.Yteblpjnkinghoaa.J
open Go.RowKit
theorem bl_irr : ∀ a : List UInt8, Op.bytesLess a a = false
  | [] => rfl
  | x :: a => by unfold Op.bytesLess; simp [bl_irr a]
theorem bl_trans : ∀ {a b c : List UInt8}, Op.bytesLess a b = true → Op.bytesLess b c = true → Op.bytesLess a c = true
  | _, _, [], _, h => by unfold Op.bytesLess at h; cases h
  | [], _, _ :: _, _, _ => rfl
  | _ :: _, [], _ :: _, h, _ => by cases h
  | x :: a, y :: b, z :: c, h1, h2 => by
    unfold Op.bytesLess at h1 h2 ⊢
    simp only [Bool.or_eq_true, decide_eq_true_eq, Bool.and_eq_true, beq_iff_eq] at h1 h2 ⊢
    rcases h1 with h1 | ⟨rfl, h1⟩
    · rcases h2 with h2 | ⟨rfl, h2⟩
      · exact .inl (UInt8.lt_trans h1 h2)
      · exact .inl h1
    · rcases h2 with h2 | ⟨rfl, h2⟩
      · exact .inl h2
      · exact .inr ⟨rfl, bl_trans h1 h2⟩
theorem bl_tri : ∀ {a b : List UInt8}, Op.bytesLess a b = false → a ≠ b → Op.bytesLess b a = true
  | [], [], _, h => absurd rfl h
  | [], _ :: _, h, _ => by cases h
  | _ :: _, [], _, _ => rfl
  | x :: a, y :: b, h, hne => by
    unfold Op.bytesLess at h ⊢
    simp only [Bool.or_eq_false_iff, decide_eq_false_iff_not, Bool.and_eq_false_iff, beq_eq_false_iff_ne] at h
    simp only [Bool.or_eq_true, decide_eq_true_eq, Bool.and_eq_true, beq_iff_eq]
    by_cases hxy : x = y
    · subst hxy
      refine .inr ⟨rfl, bl_tri (h.2.resolve_left (fun h => h rfl)) (fun e => hne (by rw [e]))⟩
    · exact .inl (UInt8.lt_of_le_of_ne (UInt8.not_lt.1 h.1) (Ne.symm hxy))
theorem toList_inj {a b : ByteArray} (h : a.toList = b.toList) : a = b := by
  rw [ByteArray.toList_eq, ByteArray.toList_eq] at h; cases a; cases b; simpa using h
theorem kless_irr (a : ByteArray) : kless a a = false := bl_irr _
theorem kless_trans {a b c : ByteArray} (h1 : kless a b = true) (h2 : kless b c = true) : kless a c = true := bl_trans h1 h2
theorem kless_tri {a b : ByteArray} (h : kless a b = false) (hne : a ≠ b) : kless b a = true := bl_tri h (fun e => hne (toList_inj e))
/-- A state in order. -/
def Sorted (l : List S41) : Prop := l.Pairwise fun a b => kless a.f0 b.f0 = true
theorem apRest_cons (x y : S41) (r : List S41) : apRest x (y :: r) = if y.f0 = x.f0 then r else y :: r := rfl
theorem rest_sorted {x : S41} {l : List S41} (h : Sorted l) (hx : ∀ y ∈ l.head?, kless y.f0 x.f0 = false) : Sorted (apRest x l) ∧ ∀ b ∈ apRest x l, kless x.f0 b.f0 = true := by
  cases l with
  | nil => exact ⟨List.Pairwise.nil, fun b hb => by cases hb⟩
  | cons y r =>
    have hy := hx y rfl
    have hp := List.pairwise_cons.1 h
    rw [apRest_cons]
    by_cases he : y.f0 = x.f0
    · rw [if_pos he]
      exact ⟨hp.2, fun b hb => by rw [← he]; exact hp.1 b hb⟩
    · rw [if_neg he]
      have hxy := kless_tri hy he
      refine ⟨h, fun b hb => ?_⟩
      rcases List.mem_cons.1 hb with rfl | hb
      · exact hxy
      · exact kless_trans hxy (hp.1 b hb)
theorem tw_all (p : S41 → Bool) : ∀ (l : List S41) (a : S41), a ∈ l.takeWhile p → p a = true
  | [], _, h => by cases h
  | b :: l, a, h => by
    rw [List.takeWhile_cons] at h
    split at h
    · rcases List.mem_cons.1 h with rfl | h
      · assumption
      · exact tw_all p l a h
    · cases h
theorem dw_head (p : S41 → Bool) : ∀ (l : List S41), ∀ y ∈ (l.dropWhile p).head?, p y = false
  | [], y, h => by cases h
  | b :: l, y, h => by
    rw [List.dropWhile_cons] at h
    split at h
    · exact dw_head p l y h
    · rename_i hp
      cases h
      exact Bool.eq_false_iff.2 hp
theorem rest_sub (x : S41) (l : List S41) : ∀ b ∈ apRest x l, b ∈ l := by
  cases l with
  | nil => intro b hb; exact hb
  | cons y r =>
    intro b hb
    rw [apRest_cons] at hb
    split at hb
    · exact List.mem_cons_of_mem _ hb
    · exact hb
theorem apStep_sorted {cur : List S41} (h : Sorted cur) (x : S41) : Sorted (apStep cur x) := by
  have hs : Sorted (cur.takeWhile (fun y => kless y.f0 x.f0) ++ cur.dropWhile (fun y => kless y.f0 x.f0)) := by rw [List.takeWhile_append_dropWhile]; exact h
  obtain ⟨h1, h2, h3⟩ := List.pairwise_append.1 hs
  obtain ⟨h4, h5⟩ := rest_sorted (x := x) h2 (dw_head _ _)
  have h6 := tw_all (fun y => kless y.f0 x.f0) cur
  unfold apStep Sorted
  rw [List.pairwise_append, List.pairwise_append]
  refine ⟨⟨h1, ?_, fun a ha b hb => ?_⟩, h4, fun a ha b hb => ?_⟩
  · split <;> simp
  · split at hb
    · rw [List.mem_singleton] at hb; subst hb; exact h6 a ha
    · cases hb
  · rcases List.mem_append.1 ha with ha | ha
    · exact h3 a ha b (rest_sub x _ b hb)
    · split at ha
      · rw [List.mem_singleton] at ha; subst ha; exact h5 b hb
      · cases ha
theorem rd_mem {l : List S41} {t : Nat} (h : t < l.length) : rd_T41 l (t : Int) = l[t] := by
  unfold rd_T41; rw [Int.toNat_natCast, List.getD_eq_getElem?_getD, List.getElem?_eq_getElem h]; rfl
theorem sorted_behind {cur : List S41} (h : Sorted cur) (key : ByteArray) (t : Nat) (h1 : kpos cur key ≤ t) (h2 : t < cur.length) : kless (rd_T41 cur (t : Int)).f0 key = false := by
  have he := tw_end (fun y => kless y.f0 key) cur (by have : kpos cur key < cur.length := by omega
                                                      exact this)
  change kless (rd_T41 cur (kpos cur key : Int)).f0 key = false at he
  rcases Nat.lt_or_eq_of_le h1 with hlt | rfl
  · cases hk : kless (rd_T41 cur (t : Int)).f0 key with
    | false => rfl
    | true =>
      rw [rd_mem (by omega)] at he
      rw [rd_mem h2] at hk
      have := List.pairwise_iff_getElem.1 h (kpos cur key) t (by omega) h2 hlt
      rw [kless_trans this hk] at he
      cases he
  · exact he
/-- What the program does to its row, case by case. -/
theorem apStep_put {cur : List S41} {x : S41} (hf : x.f1 = true) (ht : kthere cur x.f0 = true) : apStep cur x = cur.take (kpos cur x.f0) ++ x :: cur.drop (kpos cur x.f0 + 1) := by
  unfold kthere at ht
  simp only [Bool.and_eq_true, decide_eq_true_eq] at ht
  have hd := List.drop_eq_getElem_cons ht.1
  rw [rd_mem ht.1] at ht
  unfold apStep
  rw [if_pos hf, ← tw_take, ← tw_drop]
  change cur.take (kpos cur x.f0) ++ [x] ++ apRest x (cur.drop (kpos cur x.f0)) = _
  rw [hd, apRest, if_pos ht.2]
  simp
theorem apStep_ins {cur : List S41} {x : S41} (hf : x.f1 = true) (ht : kthere cur x.f0 = false) : apStep cur x = cur.take (kpos cur x.f0) ++ x :: cur.drop (kpos cur x.f0) := by
  unfold apStep
  rw [if_pos hf, ← tw_take, ← tw_drop]
  change cur.take (kpos cur x.f0) ++ [x] ++ apRest x (cur.drop (kpos cur x.f0)) = _
  have : apRest x (cur.drop (kpos cur x.f0)) = cur.drop (kpos cur x.f0) := by
    by_cases hlt : kpos cur x.f0 < cur.length
    · unfold kthere at ht
      rw [decide_eq_true hlt, Bool.true_and, decide_eq_false_iff_not, rd_mem hlt] at ht
      rw [List.drop_eq_getElem_cons hlt, apRest, if_neg ht]
    · rw [List.drop_eq_nil_of_le (by omega)]; rfl
  rw [this]; simp
theorem apStep_del {cur : List S41} {x : S41} (hf : x.f1 = false) (ht : kthere cur x.f0 = true) : apStep cur x = cur.take (kpos cur x.f0) ++ cur.drop (kpos cur x.f0 + 1) := by
  unfold kthere at ht
  simp only [Bool.and_eq_true, decide_eq_true_eq] at ht
  have hd := List.drop_eq_getElem_cons ht.1
  rw [rd_mem ht.1] at ht
  unfold apStep
  rw [if_neg (by rw [hf]; decide), ← tw_take, ← tw_drop]
  change cur.take (kpos cur x.f0) ++ [] ++ apRest x (cur.drop (kpos cur x.f0)) = _
  rw [hd, apRest, if_pos ht.2]
  simp
theorem apStep_no {cur : List S41} {x : S41} (hf : x.f1 = false) (ht : kthere cur x.f0 = false) : apStep cur x = cur := by
  unfold apStep
  rw [if_neg (by rw [hf]; decide), ← tw_take, ← tw_drop]
  change cur.take (kpos cur x.f0) ++ [] ++ apRest x (cur.drop (kpos cur x.f0)) = _
  have : apRest x (cur.drop (kpos cur x.f0)) = cur.drop (kpos cur x.f0) := by
    by_cases hlt : kpos cur x.f0 < cur.length
    · unfold kthere at ht
      rw [decide_eq_true hlt, Bool.true_and, decide_eq_false_iff_not, rd_mem hlt] at ht
      rw [List.drop_eq_getElem_cons hlt, apRest, if_neg ht]
    · rw [List.drop_eq_nil_of_le (by omega)]; rfl
  rw [this, List.append_nil, List.take_append_drop]
theorem good_sorted {l : List S41} (h : (List.range l.length).all (goodAt l) = true) : Sorted l := by
  have hadj : ∀ k, k + 1 < l.length → kless (rd_T41 l (k : Int)).f0 (rd_T41 l ((k + 1 : Nat) : Int)).f0 = true := fun k hk => by
    have := List.all_eq_true.1 h (k + 1) (List.mem_range.2 hk)
    unfold goodAt at this
    simp only [Bool.and_eq_true, Bool.or_eq_true, decide_eq_true_eq] at this
    have h2 := this.2.resolve_left (by omega)
    rw [show ((k + 1 : Nat) : Int) - 1 = k by omega] at h2
    exact h2
  refine List.pairwise_iff_getElem.2 fun i j hi hj hij => ?_
  induction j with
  | zero => omega
  | succ j ih =>
    have hs := hadj j hj
    rw [rd_mem (by omega), rd_mem hj] at hs
    rcases Nat.lt_or_eq_of_le (Nat.le_of_lt_succ hij) with hlt | rfl
    · exact kless_trans (ih (by omega) hlt) hs
    · exact hs
end Go.Proofs.Yteblpjnkinghoaa.J
