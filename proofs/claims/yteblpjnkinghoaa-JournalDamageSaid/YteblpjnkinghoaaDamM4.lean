/- The statement JournalDamage: P25.3, the notes before a byte that was changed are read, and Decode tells what the reference tells. No condition. -/
import Derived.Deep.SlicePairs
import Derived.Test.YteblpjnkinghoaaRows
import Derived.WalkKit
import Derived.ProofKit
import Derived.OpenShut
import Derived.ShutString
import Derived.ChangeOld
import Derived.Below
import Derived.SizedLaws
import Derived.Test.YteblpjnkinghoaaDamM1
import Derived.Test.YteblpjnkinghoaaDamM3
set_option linter.unusedVariables false
set_option linter.unusedSimpArgs false
namespace Go.Proofs.Yteblpjnkinghoaa.J
open Go.RowKit Go.Proofs.YteblpjnkinghoaaW.PrintWords Go.Proofs.YteblpjnkinghoaaW.PrintLast Go.Proofs.YteblpjnkinghoaaW.PrintMore
attribute [local go_sem] max2_int min2_int max_two min_two max_three min_three max_four min_four   -- for this text's walks alone
set_option linter.unusedVariables false
set_option linter.unusedSimpArgs false
/-! ### ringworkref25_all: function 57 -/
def ringworkref25_all.l0 : Nat → Int → List (S39) → ByteArray → Int → Option (ByteArray)
  | 0, _, _, _, _ => none
  | k + 1, x0, x1, x5, x6 => if x6 < (x1.length : Int) then (if 0 ≤ x6 then ((ringworkref25_written.f ((rd_T39 x1 x6).f0) ((rd_T39 x1 x6).f1) ((rd_T39 x1 x6).f2) ((rd_T39 x1 x6).f3) ((rd_T39 x1 x6).f4)).bind fun t173 => ((ringworkref25_Sum.f x0 t173).bind fun t174 => (if x5.size + t173.size ≤ 9223372036854775807 then ((ringworkref25_eight.f t174).bind fun t175 => (if (x5 ++ t173).size + t175.size ≤ 9223372036854775807 then (ringworkref25_all.l0 k t174 x1 ((x5 ++ t173) ++ t175) (wrap64 (x6 + 1))) else (none))) else (none)))) else (none)) else (some x5)
def ringworkref25_all.f (k : Nat) (a0 : Int) (l1 : List (S39)) : Option (ByteArray) := ringworkref25_all.l0 k a0 l1 (⟨#[]⟩ : ByteArray) 0
set_option maxHeartbeats 8000000 in
set_option maxRecDepth 100000 in
theorem ringworkref25_all.calls (k : Nat) (a0 : Int) (A1 : Option Addr) (c1 : Nat) (l1 : List (S39)) (r : ByteArray) (w : World) (hr1 : Kd.C k39 w A1 l1.length l1) (hc1 : l1.length ≤ c1) (h : ringworkref25_all.f k a0 l1 = some r) :
    Calls Try.prog 57 #[.int .u64 a0, .slice A1 l1.length c1] w fun e w' => e = .returned (.string r) ∧ Below w.heap.size w w' := by
  have hu39 := Try.underlying39
  have HR1 := Aside0.mk hr1
  have HC1 := Aside0.mk hc1
  clear hr1 hc1
  have HB := Aside0.mk (Below.refl w.heap.size w)
  have H : (ringworkref25_all.l0 k a0 l1 (⟨#[]⟩ : ByteArray) 0) = some r := h
  clear h
  have H' := Aside0.mk H
  clear H
  go_enter Try.func57, Try.ntmps57
  go_wp2
  go_loopg [0, 5, 6] k (fun kq v0 v5 v6 w' => ∃ (x0_1 : Int) (x5_1 : ByteArray) (x6_1 : Int), v0 = .int .u64 x0_1 ∧ v5 = .string x5_1 ∧ v6 = .int .i64 x6_1 ∧ Aside0 (ringworkref25_all.l0 kq x0_1 l1 x5_1 x6_1 = some r) ∧ Aside0 (kq ≤ k) ∧ Aside0 (Below w.heap.size w w'))
  case atStart => exact ⟨(a0), ((⟨#[]⟩ : ByteArray)), (0), (by first | rfl | (simp; done) | (simp [*]; done)), (by first | rfl | (simp; done) | (simp [*]; done)), (by first | rfl | (simp; done) | (simp [*]; done)), H', ⟨Nat.le_refl _⟩, ⟨by repeat (first | (with_reducible first | exact HB.out | apply below_alloc | apply pw_below_drewN | apply below_drew1) | exact HB.out)⟩⟩
  case round =>
    clear H'
    try clear c1
    try clear p2
    obtain ⟨x0_1, x5_1, x6_1, rfl, rfl, rfl, HA, HK1, HB⟩ := hrel
    cases gk with
    | zero => exact absurd HA.out (by simp [ringworkref25_all.l0])
    | succ k1 =>
      have H := HA.out
      clear HA
      simp only [ringworkref25_all.l0] at H
      by_cases c3 : x6_1 < (l1.length : Int)
      · rw [if_pos c3] at H
        have c3b0 : decide (x6_1 < (l1.length : Int)) = true := decide_eq_true c3
        clear c3
        by_cases c4 : 0 ≤ x6_1
        · rw [if_pos c4] at H
          have c4b0 : decide (0 ≤ x6_1) = true := decide_eq_true c4
          clear c4
          replace H := Option.bind_eq_some_iff.mp H
          obtain ⟨t173, A50, H⟩ := H
          replace H : ((ringworkref25_Sum.f x0_1 t173).bind fun t174 => (if x5_1.size + t173.size ≤ 9223372036854775807 then ((ringworkref25_eight.f t174).bind fun t175 => (if (x5_1 ++ t173).size + t175.size ≤ 9223372036854775807 then (ringworkref25_all.l0 k1 t174 l1 ((x5_1 ++ t173) ++ t175) (wrap64 (x6_1 + 1))) else (none))) else (none))) = some r := H
          have A5 := Aside0.mk A50
          clear A50
          replace H := Option.bind_eq_some_iff.mp H
          obtain ⟨t174, A60, H⟩ := H
          replace H : (if x5_1.size + t173.size ≤ 9223372036854775807 then ((ringworkref25_eight.f t174).bind fun t175 => (if (x5_1 ++ t173).size + t175.size ≤ 9223372036854775807 then (ringworkref25_all.l0 k1 t174 l1 ((x5_1 ++ t173) ++ t175) (wrap64 (x6_1 + 1))) else (none))) else (none)) = some r := H
          have A6 := Aside0.mk A60
          clear A60
          by_cases c7 : x5_1.size + t173.size ≤ 9223372036854775807
          · rw [if_pos c7] at H
            have c7add : ∀ w_ : World, (Op.stringOp .add (x5_1) (t173)).run Try.prog w_ = .ok (.string ((x5_1) ++ (t173))) w_ := fun w_ => run_string_add_sum w_ _ _ c7
            have c7b0 := eq_true c7
            have c7b1 : decide (x5_1.size + t173.size ≤ 9223372036854775807) = true := decide_eq_true c7
            try have c7b2 : (9223372036854775807 < x5_1.size + t173.size) = False := eq_false (Nat.not_lt.2 c7)
            replace H := Option.bind_eq_some_iff.mp H
            obtain ⟨t175, A80, H⟩ := H
            replace H : (if (x5_1 ++ t173).size + t175.size ≤ 9223372036854775807 then (ringworkref25_all.l0 k1 t174 l1 ((x5_1 ++ t173) ++ t175) (wrap64 (x6_1 + 1))) else (none)) = some r := H
            have A8 := Aside0.mk A80
            clear A80
            by_cases c9 : (x5_1 ++ t173).size + t175.size ≤ 9223372036854775807
            · rw [if_pos c9] at H
              have c9add : ∀ w_ : World, (Op.stringOp .add ((x5_1 ++ t173)) (t175)).run Try.prog w_ = .ok (.string (((x5_1 ++ t173)) ++ (t175))) w_ := fun w_ => run_string_add_sum w_ _ _ c9
              have c9b0 := eq_true c9
              have c9b1 : decide ((x5_1 ++ t173).size + t175.size ≤ 9223372036854775807) = true := decide_eq_true c9
              try have c9b2 : (9223372036854775807 < (x5_1 ++ t173).size + t175.size) = False := eq_false (Nat.not_lt.2 c9)
              have H' := Aside0.mk H
              clear H
              have p172 : 0 ≤ (x6_1 : Int) := of_decide_eq_true (by first | (with_reducible assumption) | assumption)
              have q172 : x6_1 < (l1.length : Int) := of_decide_eq_true (by first | (with_reducible assumption) | assumption)
              obtain ⟨ad172, e172, hx172_0, hx172_1, hx172_2, hx172_3, hx172_4⟩ := at_T39 HR1.out x6_1 p172 q172
              cases e172
              replace hx172_0 := (HB.out.cell (World.block_lt_of_cell? w _ hx172_0)).trans hx172_0
              replace hx172_1 := (HB.out.cell (World.block_lt_of_cell? w _ hx172_1)).trans hx172_1
              replace hx172_2 := (HB.out.cell (World.block_lt_of_cell? w _ hx172_2)).trans hx172_2
              replace hx172_3 := (HB.out.cell (World.block_lt_of_cell? w _ hx172_3)).trans hx172_3
              replace hx172_4 := (HB.out.cell (World.block_lt_of_cell? w _ hx172_4)).trans hx172_4
              replace p172 := eq_true p172
              replace q172 := eq_true q172
              go_wp2_with (first | ((with_reducible refine gate_callee (f := 74) rfl ?_); refine goesL_ (some 18) rfl rfl Try.func74 (by kernel_rfl) rfl #[.agg #[.int .i64 ((rd_T39 l1 x6_1).f0), .int .i64 ((rd_T39 l1 x6_1).f1), .string ((rd_T39 l1 x6_1).f2), .bool ((rd_T39 l1 x6_1).f3), .string ((rd_T39 l1 x6_1).f4)]] rfl (by (try simp only [List.map_toArray, List.map_cons, List.map_nil]); first | done | rfl | (simp only [List.length_drop, List.length_take]; rfl)) ?_; (with_reducible refine (ringworkref25_written.calls ((rd_T39 l1 x6_1).f0) ((rd_T39 l1 x6_1).f1) ((rd_T39 l1 x6_1).f2) ((rd_T39 l1 x6_1).f3) ((rd_T39 l1 x6_1).f4) t173 _ A5.out).mono ?_); rintro e w10 ⟨rfl, hb⟩; refine ⟨_, rfl, ?_⟩; have n0_ := Aside0.mk (below_step (by repeat (first | (with_reducible first | exact HB.out | apply below_alloc | apply pw_below_drewN | apply below_drew1) | exact HB.out)) hb); clear HB; have HB := n0_; clear n0_; (try clear hb); (try clear hb2); (try clear hk); (try clear hi)) | ((with_reducible refine gate_callee (f := 31) rfl ?_); refine goesL_ (some 21) rfl rfl Try.func31 (by kernel_rfl) rfl #[.int .u64 x0_1, .string t173] rfl (by (try simp only [List.map_toArray, List.map_cons, List.map_nil]); first | done | rfl | (simp only [List.length_drop, List.length_take]; rfl)) ?_; (with_reducible refine (ringworkref25_Sum.calls x0_1 t173 t174 _ A6.out).mono ?_); rintro e w11 ⟨rfl, hb⟩; refine ⟨_, rfl, ?_⟩; have n0_ := Aside0.mk (below_step (by repeat (first | (with_reducible first | exact HB.out | apply below_alloc | apply pw_below_drewN | apply below_drew1) | exact HB.out)) hb); clear HB; have HB := n0_; clear n0_; (try clear hb); (try clear hb2); (try clear hk); (try clear hi)) | ((with_reducible refine gate_callee (f := 63) rfl ?_); refine goesL_ (some 26) rfl rfl Try.func63 (by kernel_rfl) rfl #[.int .u64 t174] rfl (by (try simp only [List.map_toArray, List.map_cons, List.map_nil]); first | done | rfl | (simp only [List.length_drop, List.length_take]; rfl)) ?_; (with_reducible refine (ringworkref25_eight.calls t174 t175 _ A8.out).mono ?_); rintro e w12 ⟨rfl, hb⟩; refine ⟨_, rfl, ?_⟩; have n0_ := Aside0.mk (below_step (by repeat (first | (with_reducible first | exact HB.out | apply below_alloc | apply pw_below_drewN | apply below_drew1) | exact HB.out)) hb); clear HB; have HB := n0_; clear n0_; (try clear hb); (try clear hb2); (try clear hk); (try clear hi)))
              go_roundg k1
              case measure => have := HK1.out; omega
              case rel => exact ⟨(t174), ((x5_1 ++ t173) ++ t175), (wrap64 (x6_1 + 1)), (by first | rfl | (simp; done) | (simp [*]; done)), (by first | rfl | (simp; done) | (simp [*]; done)), (by first | rfl | (simp; done) | (simp [*]; done)), H', ⟨by have := HK1.out; omega⟩, ⟨by repeat (first | (with_reducible first | exact HB.out | apply below_alloc | apply pw_below_drewN | apply below_drew1) | exact HB.out)⟩⟩
            · rw [if_neg c9] at H
              exact absurd H (by simp)
          · rw [if_neg c7] at H
            exact absurd H (by simp)
        · rw [if_neg c4] at H
          exact absurd H (by simp)
      · rw [if_neg c3] at H
        have c3b0 : decide (x6_1 < (l1.length : Int)) = false := decide_eq_false c3
        clear c3
        obtain rfl := Option.some.inj H
        go_wp2
        go_ret
        exact ⟨by first | rfl | (simp [errW_none, errW_some] <;> rfl) | (simp [*, errW_none, errW_some] <;> rfl), by repeat (first | (with_reducible first | exact HB.out | apply below_alloc | apply pw_below_drewN | apply below_drew1) | exact HB.out)⟩

/-! ### ringworkref25_Encode: function 26 -/
def ringworkref25_Encode.f (k : Nat) (l0 : List (S39)) : Option (ByteArray × Int) := (ringworkref25_notes.f k l0).bind fun t176 => (if t176 = true then ((ringworkref25_all.f k 0 l0).bind fun t177 => (if (t177.size : Int) > 65536 then (some ((⟨#[]⟩ : ByteArray), 3)) else (some (t177, 0)))) else (some ((⟨#[]⟩ : ByteArray), 1)))
set_option maxHeartbeats 8000000 in
set_option maxRecDepth 100000 in
theorem ringworkref25_Encode.calls (k : Nat) (A0 : Option Addr) (c0 : Nat) (l0 : List (S39)) (r1 : ByteArray) (r2 : Int) (w : World) (hr0 : Kd.C k39 w A0 l0.length l0) (hc0 : l0.length ≤ c0) (h : ringworkref25_Encode.f k l0 = some (r1, r2)) :
    Calls Try.prog 26 #[.slice A0 l0.length c0] w fun e w' => e = .returned (.tuple #[.string r1, .int .i64 r2]) ∧ Below w.heap.size w w' := by
  have HR0 := Aside0.mk hr0
  have HC0 := Aside0.mk hc0
  clear hr0 hc0
  have HB := Aside0.mk (Below.refl w.heap.size w)
  have H : ((ringworkref25_notes.f k l0).bind fun t176 => (if t176 = true then ((ringworkref25_all.f k 0 l0).bind fun t177 => (if (t177.size : Int) > 65536 then (some ((⟨#[]⟩ : ByteArray), 3)) else (some (t177, 0)))) else (some ((⟨#[]⟩ : ByteArray), 1)))) = some (r1, r2) := h
  clear h
  replace H := Option.bind_eq_some_iff.mp H
  obtain ⟨t176, A20, H⟩ := H
  replace H : (if t176 = true then ((ringworkref25_all.f k 0 l0).bind fun t177 => (if (t177.size : Int) > 65536 then (some ((⟨#[]⟩ : ByteArray), 3)) else (some (t177, 0)))) else (some ((⟨#[]⟩ : ByteArray), 1))) = some (r1, r2) := H
  have A2 := Aside0.mk A20
  clear A20
  by_cases c3 : t176 = true
  · subst c3
    have H1 : ((ringworkref25_all.f k 0 l0).bind fun t177 => (if (t177.size : Int) > 65536 then (some ((⟨#[]⟩ : ByteArray), 3)) else (some (t177, 0)))) = some (r1, r2) := by rw [if_pos rfl] at H; exact H
    clear H
    have H := H1
    clear H1
    replace H := Option.bind_eq_some_iff.mp H
    obtain ⟨t177, A40, H⟩ := H
    replace H : (if (t177.size : Int) > 65536 then (some ((⟨#[]⟩ : ByteArray), 3)) else (some (t177, 0))) = some (r1, r2) := H
    have A4 := Aside0.mk A40
    clear A40
    by_cases c5 : (t177.size : Int) > 65536
    · rw [if_pos c5] at H
      have c5b0 : decide (65536 < (t177.size : Int)) = true := decide_eq_true c5
      have c5b1 : decide (65536 < t177.size) = true := decide_eq_true (by omega)
      clear c5
      simp only [Option.some.injEq, Prod.mk.injEq] at H
      obtain ⟨rfl, rfl⟩ := H
      go_enter Try.func26, Try.ntmps26
      go_wp2_with (first | ((with_reducible refine gate_callee (f := 56) rfl ?_); refine goesL_ (some 6) rfl rfl Try.func56 (by kernel_rfl) rfl #[.slice A0 l0.length c0] rfl (by (try simp only [List.map_toArray, List.map_cons, List.map_nil]); first | done | rfl | (simp only [List.length_drop, List.length_take]; rfl)) ?_; (with_reducible refine (ringworkref25_notes.calls k _ _ l0 true _ ?side1 ?side2 A2.out).mono ?_); (case side1 => repeat (first | exact HR0.out | (with_reducible refine Kd.C_alloc ?_ _) | (with_reducible refine Kd.C_drewN ?_ _) | (with_reducible refine Kd.C_drew ?_))); (case side2 => exact HC0.out); rintro e w6 ⟨rfl, hb⟩; refine ⟨_, rfl, ?_⟩; have n0_ := Aside0.mk (below_step (by repeat (first | (with_reducible first | exact HB.out | apply below_alloc | apply pw_below_drewN | apply below_drew1) | exact HB.out)) hb); clear HB; have HB := n0_; clear n0_; (try clear hb); (try clear hb2); (try clear hk); (try clear hi)) | ((with_reducible refine gate_callee (f := 57) rfl ?_); refine goesL_ (some 9) rfl rfl Try.func57 (by kernel_rfl) rfl #[.int .u64 0, .slice A0 l0.length c0] rfl (by (try simp only [List.map_toArray, List.map_cons, List.map_nil]); first | done | rfl | (simp only [List.length_drop, List.length_take]; rfl)) ?_; (with_reducible refine (ringworkref25_all.calls k 0 _ _ l0 t177 _ ?side1 ?side2 A4.out).mono ?_); (case side1 => repeat (first | exact (Kd.C_below HR0.out HB.out) | (with_reducible refine Kd.C_alloc ?_ _) | (with_reducible refine Kd.C_drewN ?_ _) | (with_reducible refine Kd.C_drew ?_))); (case side2 => exact HC0.out); rintro e w7 ⟨rfl, hb⟩; refine ⟨_, rfl, ?_⟩; have n0_ := Aside0.mk (below_step (by repeat (first | (with_reducible first | exact HB.out | apply below_alloc | apply pw_below_drewN | apply below_drew1) | exact HB.out)) hb); clear HB; have HB := n0_; clear n0_; (try clear hb); (try clear hb2); (try clear hk); (try clear hi)))
      go_ret2
      exact ⟨by first | rfl | (simp [errW_none, errW_some] <;> rfl) | (simp [*, errW_none, errW_some] <;> rfl), by repeat (first | (with_reducible first | exact HB.out | apply below_alloc | apply pw_below_drewN | apply below_drew1) | exact HB.out)⟩
    · rw [if_neg c5] at H
      have c5b0 : decide (65536 < (t177.size : Int)) = false := decide_eq_false c5
      have c5b1 : decide (65536 < t177.size) = false := decide_eq_false (by omega)
      clear c5
      simp only [Option.some.injEq, Prod.mk.injEq] at H
      obtain ⟨rfl, rfl⟩ := H
      go_enter Try.func26, Try.ntmps26
      go_wp2_with (first | ((with_reducible refine gate_callee (f := 56) rfl ?_); refine goesL_ (some 6) rfl rfl Try.func56 (by kernel_rfl) rfl #[.slice A0 l0.length c0] rfl (by (try simp only [List.map_toArray, List.map_cons, List.map_nil]); first | done | rfl | (simp only [List.length_drop, List.length_take]; rfl)) ?_; (with_reducible refine (ringworkref25_notes.calls k _ _ l0 true _ ?side1 ?side2 A2.out).mono ?_); (case side1 => repeat (first | exact HR0.out | (with_reducible refine Kd.C_alloc ?_ _) | (with_reducible refine Kd.C_drewN ?_ _) | (with_reducible refine Kd.C_drew ?_))); (case side2 => exact HC0.out); rintro e w8 ⟨rfl, hb⟩; refine ⟨_, rfl, ?_⟩; have n0_ := Aside0.mk (below_step (by repeat (first | (with_reducible first | exact HB.out | apply below_alloc | apply pw_below_drewN | apply below_drew1) | exact HB.out)) hb); clear HB; have HB := n0_; clear n0_; (try clear hb); (try clear hb2); (try clear hk); (try clear hi)) | ((with_reducible refine gate_callee (f := 57) rfl ?_); refine goesL_ (some 9) rfl rfl Try.func57 (by kernel_rfl) rfl #[.int .u64 0, .slice A0 l0.length c0] rfl (by (try simp only [List.map_toArray, List.map_cons, List.map_nil]); first | done | rfl | (simp only [List.length_drop, List.length_take]; rfl)) ?_; (with_reducible refine (ringworkref25_all.calls k 0 _ _ l0 t177 _ ?side1 ?side2 A4.out).mono ?_); (case side1 => repeat (first | exact (Kd.C_below HR0.out HB.out) | (with_reducible refine Kd.C_alloc ?_ _) | (with_reducible refine Kd.C_drewN ?_ _) | (with_reducible refine Kd.C_drew ?_))); (case side2 => exact HC0.out); rintro e w9 ⟨rfl, hb⟩; refine ⟨_, rfl, ?_⟩; have n0_ := Aside0.mk (below_step (by repeat (first | (with_reducible first | exact HB.out | apply below_alloc | apply pw_below_drewN | apply below_drew1) | exact HB.out)) hb); clear HB; have HB := n0_; clear n0_; (try clear hb); (try clear hb2); (try clear hk); (try clear hi)))
      go_ret2
      exact ⟨by first | rfl | (simp [errW_none, errW_some] <;> rfl) | (simp [*, errW_none, errW_some] <;> rfl), by repeat (first | (with_reducible first | exact HB.out | apply below_alloc | apply pw_below_drewN | apply below_drew1) | exact HB.out)⟩
  · replace c3 := Bool.eq_false_iff.mpr c3
    subst c3
    have H1 : (some ((⟨#[]⟩ : ByteArray), 1)) = some (r1, r2) := by rw [if_neg (show ¬ (false = true) by decide)] at H; exact H
    clear H
    have H := H1
    clear H1
    simp only [Option.some.injEq, Prod.mk.injEq] at H
    obtain ⟨rfl, rfl⟩ := H
    go_enter Try.func26, Try.ntmps26
    go_wp2_with (first | ((with_reducible refine gate_callee (f := 56) rfl ?_); refine goesL_ (some 6) rfl rfl Try.func56 (by kernel_rfl) rfl #[.slice A0 l0.length c0] rfl (by (try simp only [List.map_toArray, List.map_cons, List.map_nil]); first | done | rfl | (simp only [List.length_drop, List.length_take]; rfl)) ?_; (with_reducible refine (ringworkref25_notes.calls k _ _ l0 false _ ?side1 ?side2 A2.out).mono ?_); (case side1 => repeat (first | exact HR0.out | (with_reducible refine Kd.C_alloc ?_ _) | (with_reducible refine Kd.C_drewN ?_ _) | (with_reducible refine Kd.C_drew ?_))); (case side2 => exact HC0.out); rintro e w10 ⟨rfl, hb⟩; refine ⟨_, rfl, ?_⟩; have n0_ := Aside0.mk (below_step (by repeat (first | (with_reducible first | exact HB.out | apply below_alloc | apply pw_below_drewN | apply below_drew1) | exact HB.out)) hb); clear HB; have HB := n0_; clear n0_; (try clear hb); (try clear hb2); (try clear hk); (try clear hi)))
    go_ret2
    exact ⟨by first | rfl | (simp [errW_none, errW_some] <;> rfl) | (simp [*, errW_none, errW_some] <;> rfl), by repeat (first | (with_reducible first | exact HB.out | apply below_alloc | apply pw_below_drewN | apply below_drew1) | exact HB.out)⟩

/-! ### ringworklaw25_JournalDamage: function 7 -/
mutual
def ringworklaw25_JournalDamage.j0 : Nat → Int → Int → ByteArray → Bool → Option (Bool)
  | 0, _, _, _, _ => none
  | k + 1, x1, x2, x7, x39 => if x39 = true then ((ringworklaw25_awake.f).bind fun t182 => (some t182)) else (if (IntKind.u64.wrap ((x7.size : Int))) = 0 then (none) else (if 0 ≤ (wrap64 (Int.tmod (IntKind.u64.wrap (x1)) (IntKind.u64.wrap ((x7.size : Int))))) then (if (wrap64 (Int.tmod (IntKind.u64.wrap (x1)) (IntKind.u64.wrap ((x7.size : Int))))) ≤ (x7.size : Int) then (if (wrap64 (Int.tmod (IntKind.u64.wrap (x1)) (IntKind.u64.wrap ((x7.size : Int))))) < (x7.size : Int) then ((some (([Go.bits .xor .u8 (bt x7 (wrap64 (Int.tmod (IntKind.u64.wrap (x1)) (IntKind.u64.wrap ((x7.size : Int)))))) ((IntKind.u64.wrap (1 + (Int.tmod (IntKind.u64.wrap (x2)) 255))) % 256)] : List Int) : List Int)).bind fun y183 => (if (x7.extract 0 ((wrap64 (Int.tmod (IntKind.u64.wrap (x1)) (IntKind.u64.wrap ((x7.size : Int))))) : Int).toNat).size + (strOfNums y183).size ≤ 9223372036854775807 then (if 0 ≤ (wrap64 ((wrap64 (Int.tmod (IntKind.u64.wrap (x1)) (IntKind.u64.wrap ((x7.size : Int))))) + 1)) then (if (wrap64 ((wrap64 (Int.tmod (IntKind.u64.wrap (x1)) (IntKind.u64.wrap ((x7.size : Int))))) + 1)) ≤ (x7.size : Int) then (if ((x7.extract 0 ((wrap64 (Int.tmod (IntKind.u64.wrap (x1)) (IntKind.u64.wrap ((x7.size : Int))))) : Int).toNat) ++ (strOfNums y183)).size + (x7.extract ((wrap64 ((wrap64 (Int.tmod (IntKind.u64.wrap (x1)) (IntKind.u64.wrap ((x7.size : Int))))) + 1)) : Int).toNat x7.size).size ≤ 9223372036854775807 then ((journal_Decode.f (((x7.extract 0 ((wrap64 (Int.tmod (IntKind.u64.wrap (x1)) (IntKind.u64.wrap ((x7.size : Int))))) : Int).toNat) ++ (strOfNums y183)) ++ (x7.extract ((wrap64 ((wrap64 (Int.tmod (IntKind.u64.wrap (x1)) (IntKind.u64.wrap ((x7.size : Int))))) + 1)) : Int).toNat x7.size))).bind fun bt186 => ((ringworkref25_Decode.f k (((x7.extract 0 ((wrap64 (Int.tmod (IntKind.u64.wrap (x1)) (IntKind.u64.wrap ((x7.size : Int))))) : Int).toNat) ++ (strOfNums y183)) ++ (x7.extract ((wrap64 ((wrap64 (Int.tmod (IntKind.u64.wrap (x1)) (IntKind.u64.wrap ((x7.size : Int))))) + 1)) : Int).toNat x7.size))).bind fun bt192 => ((ringworkref25_SameNotes.f k bt186.1 bt192.1).bind fun t199 => (if t199 = true then (if bt186.2.1 = bt192.2.1 then (if (bt186.2.2.1 != bt192.2.2.1) = true then (ringworklaw25_JournalDamage.j1 k x7 (wrap64 (Int.tmod (IntKind.u64.wrap (x1)) (IntKind.u64.wrap ((x7.size : Int))))) bt186.1 bt186.2.1 true) else (ringworklaw25_JournalDamage.j1 k x7 (wrap64 (Int.tmod (IntKind.u64.wrap (x1)) (IntKind.u64.wrap ((x7.size : Int))))) bt186.1 bt186.2.1 (bt186.2.2.2 != bt192.2.2.2.2))) else (ringworklaw25_JournalDamage.j1 k x7 (wrap64 (Int.tmod (IntKind.u64.wrap (x1)) (IntKind.u64.wrap ((x7.size : Int))))) bt186.1 bt186.2.1 true)) else (ringworklaw25_JournalDamage.j1 k x7 (wrap64 (Int.tmod (IntKind.u64.wrap (x1)) (IntKind.u64.wrap ((x7.size : Int))))) bt186.1 bt186.2.1 true))))) else (none)) else (none)) else (none)) else (none))) else (none)) else (none)) else (none)))
def ringworklaw25_JournalDamage.j1 : Nat → ByteArray → Int → List (S39) → Int → Bool → Option (Bool)
  | 0, _, _, _, _, _ => none
  | k + 1, x7, x9, x12, x13, x102 => if x102 = true then (some false) else (if 0 ≤ x9 then (if x9 ≤ (x7.size : Int) then ((ringworkref25_Decode.f k (x7.extract 0 (x9 : Int).toNat)).bind fun bt200 => (if (x12.length : Int) ≥ (bt200.1.length : Int) then (if x13 ≥ bt200.2.1 then (if 0 ≤ (bt200.1.length : Int) then (if (bt200.1.length : Int) ≤ (x12.length : Int) then ((ringworkref25_SameNotes.f k (x12.take ((bt200.1.length : Int) : Int).toNat) bt200.1).bind fun t211 => (if t211 = true then ((ringworklaw25_awake.f).bind fun t212 => (some t212)) else (some false))) else (none)) else (none)) else (some false)) else (some false))) else (none)) else (none))
end
def ringworklaw25_JournalDamage.f (k : Nat) (l0 : List (S39)) (a1 : Int) (a2 : Int) : Option (Bool) := (ringworklaw25_Notes.f k l0).bind fun t178 => (if t178 = true then ((ringworkref25_Encode.f k l0).bind fun bt180 => (if bt180.2 = 0 then (ringworklaw25_JournalDamage.j0 k a1 a2 bt180.1 (bt180.1.toList == ([] : List UInt8))) else (ringworklaw25_JournalDamage.j0 k a1 a2 bt180.1 true))) else ((ringworklaw25_awake.f).bind fun t179 => (some t179)))
def ringworklaw25_JournalDamage.T8 : Bool × List (List Nat × List Nat) := (true, [([], []), ([], []), ([0, 1], [0, 1]), ([], []), ([], []), ([3, 4], [3, 4]), ([], []), ([5, 6], [5, 6]), ([7], [7]), ([8], [8]), ([2, 9], [2, 9]), ([], []), ([], []), ([12], [12]), ([11, 13], [11, 13]), ([10, 14], [10, 14]), ([15, 0, 1, 2, 3, 4, 5, 6, 7, 8, 9, 10, 11, 12, 13, 14, 15], [15])])
def ringworklaw25_JournalDamage.B8 : List Nat := [0, 0, 3, 0, 0, 24, 0, 120, 248, 504, 1023, 0, 0, 4096, 14336, 32767, 65535]
theorem ringworklaw25_JournalDamage.tab8 : rtab .any (opsOf Try.f7 8) = ringworklaw25_JournalDamage.T8 := by kernel_rfl
theorem ringworklaw25_JournalDamage.bits8 : waitsOk ringworklaw25_JournalDamage.T8.2 ringworklaw25_JournalDamage.B8 = true := by kernel_rfl
set_option maxHeartbeats 8000000 in
set_option maxRecDepth 100000 in
theorem ringworklaw25_JournalDamage.calls (k : Nat) (A0 : Option Addr) (c0 : Nat) (l0 : List (S39)) (a1 : Int) (a2 : Int) (r : Bool) (w : World) (hr0 : Kd.C k39 w A0 l0.length l0) (hc0 : l0.length ≤ c0) (h : ringworklaw25_JournalDamage.f k l0 a1 a2 = some r) :
    Calls Try.prog 7 #[.slice A0 l0.length c0, .int .i64 a1, .int .i64 a2] w fun e w' => e = .returned (.bool r) ∧ Below w.heap.size w w' := by
  have HR0 := Aside0.mk hr0
  have HC0 := Aside0.mk hc0
  clear hr0 hc0
  have HB := Aside0.mk (Below.refl w.heap.size w)
  have H : ((ringworklaw25_Notes.f k l0).bind fun t178 => (if t178 = true then ((ringworkref25_Encode.f k l0).bind fun bt180 => (if bt180.2 = 0 then (ringworklaw25_JournalDamage.j0 k a1 a2 bt180.1 (bt180.1.toList == ([] : List UInt8))) else (ringworklaw25_JournalDamage.j0 k a1 a2 bt180.1 true))) else ((ringworklaw25_awake.f).bind fun t179 => (some t179)))) = some r := h
  clear h
  replace H := Option.bind_eq_some_iff.mp H
  obtain ⟨t178, A40, H⟩ := H
  replace H : (if t178 = true then ((ringworkref25_Encode.f k l0).bind fun bt180 => (if bt180.2 = 0 then (ringworklaw25_JournalDamage.j0 k a1 a2 bt180.1 (bt180.1.toList == ([] : List UInt8))) else (ringworklaw25_JournalDamage.j0 k a1 a2 bt180.1 true))) else ((ringworklaw25_awake.f).bind fun t179 => (some t179))) = some r := H
  have A4 := Aside0.mk A40
  clear A40
  by_cases c5 : t178 = true
  · subst c5
    have H1 : ((ringworkref25_Encode.f k l0).bind fun bt180 => (if bt180.2 = 0 then (ringworklaw25_JournalDamage.j0 k a1 a2 bt180.1 (bt180.1.toList == ([] : List UInt8))) else (ringworklaw25_JournalDamage.j0 k a1 a2 bt180.1 true))) = some r := by rw [if_pos rfl] at H; exact H
    clear H
    have H := H1
    clear H1
    replace H := Option.bind_eq_some_iff.mp H
    obtain ⟨⟨t180, t181⟩, A60, H⟩ := H
    replace H : (if t181 = 0 then (ringworklaw25_JournalDamage.j0 k a1 a2 t180 (t180.toList == ([] : List UInt8))) else (ringworklaw25_JournalDamage.j0 k a1 a2 t180 true)) = some r := H
    have A6 := Aside0.mk A60
    clear A60
    have HC7 := Aside0.mk H
    clear H
    go_enter Try.func7, Try.ntmps7
    go_upto_region 4 with (first | ((with_reducible refine gate_callee (f := 10) rfl ?_); refine goesL_ (some 26) rfl rfl Try.func10 (by kernel_rfl) rfl #[.slice A0 l0.length c0] rfl (by (try simp only [List.map_toArray, List.map_cons, List.map_nil]); first | done | rfl | (simp only [List.length_drop, List.length_take]; rfl)) ?_; (with_reducible refine (ringworklaw25_Notes.calls k _ _ l0 true _ ?side1 ?side2 A4.out).mono ?_); (case side1 => repeat (first | exact HR0.out | (with_reducible refine Kd.C_alloc ?_ _) | (with_reducible refine Kd.C_drewN ?_ _) | (with_reducible refine Kd.C_drew ?_))); (case side2 => exact HC0.out); rintro e w' ⟨rfl, ⟨nd, rfl⟩⟩; refine ⟨_, rfl, ?_⟩) | ((with_reducible refine gate_callee (f := 26) rfl ?_); refine goesL_ (some 31) rfl rfl Try.func26 (by kernel_rfl) rfl #[.slice A0 l0.length c0] rfl (by (try simp only [List.map_toArray, List.map_cons, List.map_nil]); first | done | rfl | (simp only [List.length_drop, List.length_take]; rfl)) ?_; (with_reducible refine (ringworkref25_Encode.calls k _ _ l0 t180 t181 _ ?side1 ?side2 A6.out).mono ?_); (case side1 => repeat (first | exact HR0.out | (with_reducible refine Kd.C_alloc ?_ _) | (with_reducible refine Kd.C_drewN ?_ _) | (with_reducible refine Kd.C_drew ?_))); (case side2 => exact HC0.out); rintro e w8 ⟨rfl, hb⟩; refine ⟨_, rfl, ?_⟩; have n0_ := Aside0.mk (below_step (by repeat (first | (with_reducible first | exact HB.out | apply below_alloc | apply pw_below_drewN | apply below_drew1) | exact HB.out)) hb); clear HB; have HB := n0_; clear n0_; (try clear hb); (try clear hb2); (try clear hk); (try clear hi)))
    (try simp only [Act.put, List.setIfInBounds_toArray, List.set_cons_zero, List.set_cons_succ])
    go_cut [39] (fun v39 wc => ∃ (kq : Nat) (x39_6 : Bool), v39 = .bool x39_6 ∧ Aside0 (ringworklaw25_JournalDamage.j0 kq a1 a2 t180 x39_6 = some r) ∧ Aside0 (kq ≤ k) ∧ Aside0 (Below w.heap.size w wc))
    case first =>
      have H := HC7.out
      clear HC7
      by_cases c9 : t181 = 0
      · rw [if_pos c9] at H
        have c9b0 : (t181 == 0) = true := beq_iff_eq.mpr c9
        have c9b1 : (t181 != 0) = false := bne_eq_false_iff_eq.mpr c9
        clear c9
        (first | rw [c9b0] | (simp only [i64_w, i32_w]; rw [c9b0]) | skip)
        have H' := Aside0.mk H
        clear H
        go_wp2
        go_meet
        case rel => exact ⟨_, ((t180.toList == ([] : List UInt8))), (by first | rfl | (simp; done) | (simp [*]; done)), H', ⟨by first | omega | exact Nat.le_refl _⟩, ⟨by repeat (first | (with_reducible first | exact HB.out | apply below_alloc | apply pw_below_drewN | apply below_drew1) | exact HB.out)⟩⟩
      · rw [if_neg c9] at H
        have c9b0 : (t181 == 0) = false := beq_eq_false_iff_ne.mpr c9
        have c9b1 : (t181 != 0) = true := bne_iff_ne.mpr c9
        (first | rw [c9b0] | (simp only [i64_w, i32_w]; rw [c9b0]) | skip)
        have H' := Aside0.mk H
        clear H
        go_wp2
        go_meet
        case rel => exact ⟨_, (true), (by first | rfl | (simp; done) | (simp [*]; done)), H', ⟨by first | omega | exact Nat.le_refl _⟩, ⟨by repeat (first | (with_reducible first | exact HB.out | apply below_alloc | apply pw_below_drewN | apply below_drew1) | exact HB.out)⟩⟩
    case rest =>
      clear HC7
      try clear c1
      try clear c2
      try clear p2
      try clear c5
      try clear c7
      try clear c9
      try clear c9b0
      try clear c9b1
      obtain ⟨kq, x39_6, rfl, HA, HJ6, HB⟩ := hcut
      cases kq with
      | zero => exact absurd HA.out (by simp [ringworklaw25_JournalDamage.j0])
      | succ kj6 =>
        have H := HA.out
        clear HA
        simp only [ringworklaw25_JournalDamage.j0] at H
        by_cases c10 : x39_6 = true
        · subst c10
          have H1 : ((ringworklaw25_awake.f).bind fun t182 => (some t182)) = some r := by rw [if_pos rfl] at H; exact H
          clear H
          have H := H1
          clear H1
          replace H := Option.bind_eq_some_iff.mp H
          obtain ⟨t182, A110, H⟩ := H
          replace H : (some t182) = some r := H
          have A11 := Aside0.mk A110
          clear A110
          obtain rfl := Option.some.inj H
          go_wp2_with (first | ((with_reducible refine gate_callee (f := 12) rfl ?_); refine goesL_ (some 40) rfl rfl Try.func12 (by kernel_rfl) rfl #[] rfl (by (try simp only [List.map_toArray, List.map_cons, List.map_nil]); first | done | rfl | (simp only [List.length_drop, List.length_take]; rfl)) ?_; (with_reducible refine (ringworklaw25_awake.calls  t182 _ A11.out).mono ?_); rintro e w12 ⟨rfl, hb⟩; refine ⟨_, rfl, ?_⟩; have n0_ := Aside0.mk (below_step (by repeat (first | (with_reducible first | exact HB.out | apply below_alloc | apply pw_below_drewN | apply below_drew1) | exact HB.out)) hb); clear HB; have HB := n0_; clear n0_; (try clear hb); (try clear hb2); (try clear hk); (try clear hi)))
          go_ret
          exact ⟨by first | rfl | (simp [errW_none, errW_some] <;> rfl) | (simp [*, errW_none, errW_some] <;> rfl), by repeat (first | (with_reducible first | exact HB.out | apply below_alloc | apply pw_below_drewN | apply below_drew1) | exact HB.out)⟩
        · replace c10 := Bool.eq_false_iff.mpr c10
          subst c10
          have H1 : (if (IntKind.u64.wrap ((t180.size : Int))) = 0 then (none) else (if 0 ≤ (wrap64 (Int.tmod (IntKind.u64.wrap (a1)) (IntKind.u64.wrap ((t180.size : Int))))) then (if (wrap64 (Int.tmod (IntKind.u64.wrap (a1)) (IntKind.u64.wrap ((t180.size : Int))))) ≤ (t180.size : Int) then (if (wrap64 (Int.tmod (IntKind.u64.wrap (a1)) (IntKind.u64.wrap ((t180.size : Int))))) < (t180.size : Int) then ((some (([Go.bits .xor .u8 (bt t180 (wrap64 (Int.tmod (IntKind.u64.wrap (a1)) (IntKind.u64.wrap ((t180.size : Int)))))) ((IntKind.u64.wrap (1 + (Int.tmod (IntKind.u64.wrap (a2)) 255))) % 256)] : List Int) : List Int)).bind fun y183 => (if (t180.extract 0 ((wrap64 (Int.tmod (IntKind.u64.wrap (a1)) (IntKind.u64.wrap ((t180.size : Int))))) : Int).toNat).size + (strOfNums y183).size ≤ 9223372036854775807 then (if 0 ≤ (wrap64 ((wrap64 (Int.tmod (IntKind.u64.wrap (a1)) (IntKind.u64.wrap ((t180.size : Int))))) + 1)) then (if (wrap64 ((wrap64 (Int.tmod (IntKind.u64.wrap (a1)) (IntKind.u64.wrap ((t180.size : Int))))) + 1)) ≤ (t180.size : Int) then (if ((t180.extract 0 ((wrap64 (Int.tmod (IntKind.u64.wrap (a1)) (IntKind.u64.wrap ((t180.size : Int))))) : Int).toNat) ++ (strOfNums y183)).size + (t180.extract ((wrap64 ((wrap64 (Int.tmod (IntKind.u64.wrap (a1)) (IntKind.u64.wrap ((t180.size : Int))))) + 1)) : Int).toNat t180.size).size ≤ 9223372036854775807 then ((journal_Decode.f (((t180.extract 0 ((wrap64 (Int.tmod (IntKind.u64.wrap (a1)) (IntKind.u64.wrap ((t180.size : Int))))) : Int).toNat) ++ (strOfNums y183)) ++ (t180.extract ((wrap64 ((wrap64 (Int.tmod (IntKind.u64.wrap (a1)) (IntKind.u64.wrap ((t180.size : Int))))) + 1)) : Int).toNat t180.size))).bind fun bt186 => ((ringworkref25_Decode.f kj6 (((t180.extract 0 ((wrap64 (Int.tmod (IntKind.u64.wrap (a1)) (IntKind.u64.wrap ((t180.size : Int))))) : Int).toNat) ++ (strOfNums y183)) ++ (t180.extract ((wrap64 ((wrap64 (Int.tmod (IntKind.u64.wrap (a1)) (IntKind.u64.wrap ((t180.size : Int))))) + 1)) : Int).toNat t180.size))).bind fun bt192 => ((ringworkref25_SameNotes.f kj6 bt186.1 bt192.1).bind fun t199 => (if t199 = true then (if bt186.2.1 = bt192.2.1 then (if (bt186.2.2.1 != bt192.2.2.1) = true then (ringworklaw25_JournalDamage.j1 kj6 t180 (wrap64 (Int.tmod (IntKind.u64.wrap (a1)) (IntKind.u64.wrap ((t180.size : Int))))) bt186.1 bt186.2.1 true) else (ringworklaw25_JournalDamage.j1 kj6 t180 (wrap64 (Int.tmod (IntKind.u64.wrap (a1)) (IntKind.u64.wrap ((t180.size : Int))))) bt186.1 bt186.2.1 (bt186.2.2.2 != bt192.2.2.2.2))) else (ringworklaw25_JournalDamage.j1 kj6 t180 (wrap64 (Int.tmod (IntKind.u64.wrap (a1)) (IntKind.u64.wrap ((t180.size : Int))))) bt186.1 bt186.2.1 true)) else (ringworklaw25_JournalDamage.j1 kj6 t180 (wrap64 (Int.tmod (IntKind.u64.wrap (a1)) (IntKind.u64.wrap ((t180.size : Int))))) bt186.1 bt186.2.1 true))))) else (none)) else (none)) else (none)) else (none))) else (none)) else (none)) else (none))) = some r := by rw [if_neg (show ¬ (false = true) by decide)] at H; exact H
          clear H
          have H := H1
          clear H1
          by_cases c13 : (IntKind.u64.wrap ((t180.size : Int))) = 0
          · rw [if_pos c13] at H
            exact absurd H (by simp)
          · rw [if_neg c13] at H
            have c13b0 : ((IntKind.u64.wrap ((t180.size : Int))) == 0) = false := beq_eq_false_iff_ne.mpr c13
            have c13b1 : ((IntKind.u64.wrap ((t180.size : Int))) != 0) = true := bne_iff_ne.mpr c13
            obtain ⟨ji14, hji14⟩ : ∃ j_ : Int, (wrap64 (Int.tmod (IntKind.u64.wrap (a1)) (IntKind.u64.wrap ((t180.size : Int))))) = j_ := ⟨_, rfl⟩
            replace H : (if 0 ≤ (ji14) then (if (ji14) ≤ (t180.size : Int) then (if (ji14) < (t180.size : Int) then ((some (([Go.bits .xor .u8 (bt t180 (ji14)) ((IntKind.u64.wrap (1 + (Int.tmod (IntKind.u64.wrap (a2)) 255))) % 256)] : List Int) : List Int)).bind fun y183 => (if (t180.extract 0 ((ji14) : Int).toNat).size + (strOfNums y183).size ≤ 9223372036854775807 then (if 0 ≤ (wrap64 ((ji14) + 1)) then (if (wrap64 ((ji14) + 1)) ≤ (t180.size : Int) then (if ((t180.extract 0 ((ji14) : Int).toNat) ++ (strOfNums y183)).size + (t180.extract ((wrap64 ((ji14) + 1)) : Int).toNat t180.size).size ≤ 9223372036854775807 then ((journal_Decode.f (((t180.extract 0 ((ji14) : Int).toNat) ++ (strOfNums y183)) ++ (t180.extract ((wrap64 ((ji14) + 1)) : Int).toNat t180.size))).bind fun bt186 => ((ringworkref25_Decode.f kj6 (((t180.extract 0 ((ji14) : Int).toNat) ++ (strOfNums y183)) ++ (t180.extract ((wrap64 ((ji14) + 1)) : Int).toNat t180.size))).bind fun bt192 => ((ringworkref25_SameNotes.f kj6 bt186.1 bt192.1).bind fun t199 => (if t199 = true then (if bt186.2.1 = bt192.2.1 then (if (bt186.2.2.1 != bt192.2.2.1) = true then (ringworklaw25_JournalDamage.j1 kj6 t180 ji14 bt186.1 bt186.2.1 true) else (ringworklaw25_JournalDamage.j1 kj6 t180 ji14 bt186.1 bt186.2.1 (bt186.2.2.2 != bt192.2.2.2.2))) else (ringworklaw25_JournalDamage.j1 kj6 t180 ji14 bt186.1 bt186.2.1 true)) else (ringworklaw25_JournalDamage.j1 kj6 t180 ji14 bt186.1 bt186.2.1 true))))) else (none)) else (none)) else (none)) else (none))) else (none)) else (none)) else (none)) = some r := by first | (rw [hji14] at H; exact H) | (simp only [hji14] at H ⊢; exact H)
            have hji14w : (IntKind.i64.wrap (Int.tmod (IntKind.u64.wrap (a1)) (IntKind.u64.wrap ((t180.size : Int))))) = ji14 := (i64_w _).trans hji14
            by_cases c15 : 0 ≤ (ji14)
            · rw [if_pos c15] at H
              have c15b0 := eq_true c15
              have c15b1 : decide (0 ≤ (ji14)) = true := decide_eq_true c15
              clear c15
              by_cases c16 : (ji14) ≤ (t180.size : Int)
              · rw [if_pos c16] at H
                have c16b0 := eq_true c16
                have c16b1 : decide ((ji14) ≤ (t180.size : Int)) = true := decide_eq_true c16
                clear c16
                by_cases c17 : (ji14) < (t180.size : Int)
                · rw [if_pos c17] at H
                  have c17b0 : decide ((ji14) < (t180.size : Int)) = true := decide_eq_true c17
                  clear c17
                  obtain ⟨y183, hy183⟩ : ∃ y_ : List Int, y_ = (([Go.bits .xor .u8 (bt t180 (ji14)) ((IntKind.u64.wrap (1 + (Int.tmod (IntKind.u64.wrap (a2)) 255))) % 256)] : List Int)) := ⟨_, rfl⟩
                  replace H : (if (t180.extract 0 ((ji14) : Int).toNat).size + (strOfNums y183).size ≤ 9223372036854775807 then (if 0 ≤ (wrap64 ((ji14) + 1)) then (if (wrap64 ((ji14) + 1)) ≤ (t180.size : Int) then (if ((t180.extract 0 ((ji14) : Int).toNat) ++ (strOfNums y183)).size + (t180.extract ((wrap64 ((ji14) + 1)) : Int).toNat t180.size).size ≤ 9223372036854775807 then ((journal_Decode.f (((t180.extract 0 ((ji14) : Int).toNat) ++ (strOfNums y183)) ++ (t180.extract ((wrap64 ((ji14) + 1)) : Int).toNat t180.size))).bind fun bt186 => ((ringworkref25_Decode.f kj6 (((t180.extract 0 ((ji14) : Int).toNat) ++ (strOfNums y183)) ++ (t180.extract ((wrap64 ((ji14) + 1)) : Int).toNat t180.size))).bind fun bt192 => ((ringworkref25_SameNotes.f kj6 bt186.1 bt192.1).bind fun t199 => (if t199 = true then (if bt186.2.1 = bt192.2.1 then (if (bt186.2.2.1 != bt192.2.2.1) = true then (ringworklaw25_JournalDamage.j1 kj6 t180 ji14 bt186.1 bt186.2.1 true) else (ringworklaw25_JournalDamage.j1 kj6 t180 ji14 bt186.1 bt186.2.1 (bt186.2.2.2 != bt192.2.2.2.2))) else (ringworklaw25_JournalDamage.j1 kj6 t180 ji14 bt186.1 bt186.2.1 true)) else (ringworklaw25_JournalDamage.j1 kj6 t180 ji14 bt186.1 bt186.2.1 true))))) else (none)) else (none)) else (none)) else (none)) = some r := by first | (rw [hy183]; with_reducible exact H) | (have H2_ := (Option.bind_some _ _).symm.trans H; rw [hy183]; with_reducible exact H2_) | (have H2_ := (Option.bind_some _ _).symm.trans H; with_reducible exact H2_) | with_reducible exact H | (rw [hy183]; exact H) | exact H
                  have Ny183 := Aside0.mk hy183
                  clear hy183
                  by_cases c19 : (t180.extract 0 ((ji14) : Int).toNat).size + (strOfNums y183).size ≤ 9223372036854775807
                  · rw [if_pos c19] at H
                    have c19add : ∀ w_ : World, (Op.stringOp .add ((t180.extract 0 ((ji14) : Int).toNat)) ((strOfNums y183))).run Try.prog w_ = .ok (.string (((t180.extract 0 ((ji14) : Int).toNat)) ++ ((strOfNums y183)))) w_ := fun w_ => run_string_add_sum w_ _ _ c19
                    have c19b0 := eq_true c19
                    have c19b1 : decide ((t180.extract 0 ((ji14) : Int).toNat).size + (strOfNums y183).size ≤ 9223372036854775807) = true := decide_eq_true c19
                    try have c19b2 : (9223372036854775807 < (t180.extract 0 ((ji14) : Int).toNat).size + (strOfNums y183).size) = False := eq_false (Nat.not_lt.2 c19)
                    obtain ⟨ji20, hji20⟩ : ∃ j_ : Int, (wrap64 ((ji14) + 1)) = j_ := ⟨_, rfl⟩
                    replace H : (if 0 ≤ (ji20) then (if (ji20) ≤ (t180.size : Int) then (if ((t180.extract 0 ((ji14) : Int).toNat) ++ (strOfNums y183)).size + (t180.extract ((ji20) : Int).toNat t180.size).size ≤ 9223372036854775807 then ((journal_Decode.f (((t180.extract 0 ((ji14) : Int).toNat) ++ (strOfNums y183)) ++ (t180.extract ((ji20) : Int).toNat t180.size))).bind fun bt186 => ((ringworkref25_Decode.f kj6 (((t180.extract 0 ((ji14) : Int).toNat) ++ (strOfNums y183)) ++ (t180.extract ((ji20) : Int).toNat t180.size))).bind fun bt192 => ((ringworkref25_SameNotes.f kj6 bt186.1 bt192.1).bind fun t199 => (if t199 = true then (if bt186.2.1 = bt192.2.1 then (if (bt186.2.2.1 != bt192.2.2.1) = true then (ringworklaw25_JournalDamage.j1 kj6 t180 ji14 bt186.1 bt186.2.1 true) else (ringworklaw25_JournalDamage.j1 kj6 t180 ji14 bt186.1 bt186.2.1 (bt186.2.2.2 != bt192.2.2.2.2))) else (ringworklaw25_JournalDamage.j1 kj6 t180 ji14 bt186.1 bt186.2.1 true)) else (ringworklaw25_JournalDamage.j1 kj6 t180 ji14 bt186.1 bt186.2.1 true))))) else (none)) else (none)) else (none)) = some r := by first | (rw [hji20] at H; exact H) | (simp only [hji20] at H ⊢; exact H)
                    have hji20w : (IntKind.i64.wrap ((ji14) + 1)) = ji20 := (i64_w _).trans hji20
                    by_cases c21 : 0 ≤ (ji20)
                    · rw [if_pos c21] at H
                      have c21b0 := eq_true c21
                      have c21b1 : decide (0 ≤ (ji20)) = true := decide_eq_true c21
                      clear c21
                      by_cases c22 : (ji20) ≤ (t180.size : Int)
                      · rw [if_pos c22] at H
                        have c22b0 := eq_true c22
                        have c22b1 : decide ((ji20) ≤ (t180.size : Int)) = true := decide_eq_true c22
                        clear c22
                        by_cases c23 : ((t180.extract 0 ((ji14) : Int).toNat) ++ (strOfNums y183)).size + (t180.extract ((ji20) : Int).toNat t180.size).size ≤ 9223372036854775807
                        · rw [if_pos c23] at H
                          have c23add : ∀ w_ : World, (Op.stringOp .add (((t180.extract 0 ((ji14) : Int).toNat) ++ (strOfNums y183))) ((t180.extract ((ji20) : Int).toNat t180.size))).run Try.prog w_ = .ok (.string ((((t180.extract 0 ((ji14) : Int).toNat) ++ (strOfNums y183))) ++ ((t180.extract ((ji20) : Int).toNat t180.size)))) w_ := fun w_ => run_string_add_sum w_ _ _ c23
                          have c23b0 := eq_true c23
                          have c23b1 : decide (((t180.extract 0 ((ji14) : Int).toNat) ++ (strOfNums y183)).size + (t180.extract ((ji20) : Int).toNat t180.size).size ≤ 9223372036854775807) = true := decide_eq_true c23
                          try have c23b2 : (9223372036854775807 < ((t180.extract 0 ((ji14) : Int).toNat) ++ (strOfNums y183)).size + (t180.extract ((ji20) : Int).toNat t180.size).size) = False := eq_false (Nat.not_lt.2 c23)
                          replace H := Option.bind_eq_some_iff.mp H
                          obtain ⟨⟨t186, t187, t188, t189⟩, A240, H⟩ := H
                          replace H : ((ringworkref25_Decode.f kj6 (((t180.extract 0 ((ji14) : Int).toNat) ++ (strOfNums y183)) ++ (t180.extract ((ji20) : Int).toNat t180.size))).bind fun bt192 => ((ringworkref25_SameNotes.f kj6 t186 bt192.1).bind fun t199 => (if t199 = true then (if t187 = bt192.2.1 then (if (t188 != bt192.2.2.1) = true then (ringworklaw25_JournalDamage.j1 kj6 t180 ji14 t186 t187 true) else (ringworklaw25_JournalDamage.j1 kj6 t180 ji14 t186 t187 (t189 != bt192.2.2.2.2))) else (ringworklaw25_JournalDamage.j1 kj6 t180 ji14 t186 t187 true)) else (ringworklaw25_JournalDamage.j1 kj6 t180 ji14 t186 t187 true)))) = some r := H
                          have A24 := Aside0.mk A240
                          clear A240
                          replace H := Option.bind_eq_some_iff.mp H
                          obtain ⟨⟨t192, t193, t194, t195, t196⟩, A250, H⟩ := H
                          replace H : ((ringworkref25_SameNotes.f kj6 t186 t192).bind fun t199 => (if t199 = true then (if t187 = t193 then (if (t188 != t194) = true then (ringworklaw25_JournalDamage.j1 kj6 t180 ji14 t186 t187 true) else (ringworklaw25_JournalDamage.j1 kj6 t180 ji14 t186 t187 (t189 != t196))) else (ringworklaw25_JournalDamage.j1 kj6 t180 ji14 t186 t187 true)) else (ringworklaw25_JournalDamage.j1 kj6 t180 ji14 t186 t187 true))) = some r := H
                          have A25 := Aside0.mk A250
                          clear A250
                          have HC26 := Aside0.mk H
                          clear H
                          try go_wp2
                          have n0_ := Aside0.mk (below_drew1 HB.out)
                          clear HB
                          have HB := n0_
                          clear n0_
                          have p18 : 0 ≤ ((ji14) : Int) := of_decide_eq_true (by first | (with_reducible assumption) | assumption)
                          have q18 : (ji14) < (t180.size : Int) := of_decide_eq_true (by first | (with_reducible assumption) | assumption)
                          have hx18 := bt_at t180 (ji14)
                          replace p18 := eq_true p18
                          replace q18 := eq_true q18
                          refine start_ (n := 17) (S := fun w' => True) (ds := []) #[false, false, false, false, false, false, false, false, false, false, false, false, false, false, false, false, false] (by kernel_rfl) rfl rfl trivial (fun hHeld => ?_); refine with_tabW ringworklaw25_JournalDamage.tab8 ringworklaw25_JournalDamage.bits8 (fun HT_ HW_ => ?_)
                          generalize wc.drew = w27 at HB hHeld ⊢
                          refine pure_ (i := 0) (N := some 53) (v := ?_) (a' := ?_) #[true, false, false, false, false, false, false, false, false, false, false, false, false, false, false, false, false] rfl rfl (any_of HT_.out (by kernel_rfl)) (fun _ _ _ h => h) (Or.inl ⟨by rfl, ?_⟩) ?_ ?_
                          rotate_left
                          · intro w'
                            go_simp
                            with_reducible rfl
                          rotate_left
                          · simp only [Act.put, List.setIfInBounds_toArray, List.set_cons_zero, List.set_cons_succ, i64_w, i32_w]
                            rfl
                          refine pure_ (i := 1) (N := some 54) (v := ?_) (a' := ?_) #[true, true, false, false, false, false, false, false, false, false, false, false, false, false, false, false, false] rfl rfl (any_of HT_.out (by kernel_rfl)) (fun _ _ _ h => h) (Or.inl ⟨by rfl, ?_⟩) ?_ ?_
                          rotate_left
                          · intro w'
                            go_simp
                            with_reducible rfl
                          rotate_left
                          · simp only [Act.put, List.setIfInBounds_toArray, List.set_cons_zero, List.set_cons_succ, i64_w, i32_w]
                            rfl
                          refine pure_ (i := 2) (N := some 55) (v := ?_) (a' := ?_) #[true, true, true, false, false, false, false, false, false, false, false, false, false, false, false, false, false] rfl rfl (any_of HT_.out (by kernel_rfl)) (fun _ _ _ h => h) (Or.inl ⟨by rfl, ?_⟩) ?_ ?_
                          rotate_left
                          · intro w'
                            go_simp
                            with_reducible rfl
                          rotate_left
                          · simp only [Act.put, List.setIfInBounds_toArray, List.set_cons_zero, List.set_cons_succ, i64_w, i32_w]
                            rfl
                          refine pure_ (i := 3) (N := some 56) (v := ?_) (a' := ?_) #[true, true, true, true, false, false, false, false, false, false, false, false, false, false, false, false, false] rfl rfl (any_of HT_.out (by kernel_rfl)) (fun _ _ _ h => h) (Or.inl ⟨by rfl, ?_⟩) ?_ ?_
                          rotate_left
                          · intro w'
                            go_simp
                            with_reducible rfl
                          rotate_left
                          · simp only [Act.put, List.setIfInBounds_toArray, List.set_cons_zero, List.set_cons_succ, i64_w, i32_w]
                            rfl
                          refine pure_ (i := 4) (N := some 57) (v := ?_) (a' := ?_) #[true, true, true, true, true, false, false, false, false, false, false, false, false, false, false, false, false] rfl rfl (any_of HT_.out (by kernel_rfl)) (fun _ _ _ h => h) (Or.inl ⟨by rfl, ?_⟩) ?_ ?_
                          rotate_left
                          · intro w'
                            go_simp
                            with_reducible rfl
                          rotate_left
                          · simp only [Act.put, List.setIfInBounds_toArray, List.set_cons_zero, List.set_cons_succ, i64_w, i32_w]
                            rfl
                          refine pure_ (i := 6) (N := some 59) (v := ?_) (a' := ?_) #[true, true, true, true, true, false, true, false, false, false, false, false, false, false, false, false, false] rfl rfl (any_of HT_.out (by kernel_rfl)) (fun _ _ _ h => h) (Or.inl ⟨by rfl, ?_⟩) ?_ ?_
                          rotate_left
                          · intro w'
                            go_simp
                            with_reducible rfl
                          rotate_left
                          · simp only [Act.put, List.setIfInBounds_toArray, List.set_cons_zero, List.set_cons_succ, i64_w, i32_w]
                            rfl
                          refine pure_ (i := 11) (N := some 64) (v := ?_) (a' := ?_) #[true, true, true, true, true, false, true, false, false, false, false, true, false, false, false, false, false] rfl rfl (any_of HT_.out (by kernel_rfl)) (fun _ _ _ h => h) (Or.inl ⟨by rfl, ?_⟩) ?_ ?_
                          rotate_left
                          · intro w'
                            go_simp
                            with_reducible rfl
                          rotate_left
                          · simp only [Act.put, List.setIfInBounds_toArray, List.set_cons_zero, List.set_cons_succ, i64_w, i32_w]
                            rfl
                          refine pure_ (i := 12) (N := some 65) (v := ?_) (a' := ?_) #[true, true, true, true, true, false, true, false, false, false, false, true, true, false, false, false, false] rfl rfl (any_of HT_.out (by kernel_rfl)) (fun _ _ _ h => h) (Or.inl ⟨by rfl, ?_⟩) ?_ ?_
                          rotate_left
                          · intro w'
                            go_simp
                            with_reducible rfl
                          rotate_left
                          · simp only [Act.put, List.setIfInBounds_toArray, List.set_cons_zero, List.set_cons_succ, i64_w, i32_w]
                            rfl
                          refine pure_ (i := 13) (N := some 66) (v := ?_) (a' := ?_) #[true, true, true, true, true, false, true, false, false, false, false, true, true, true, false, false, false] rfl rfl (any_of HT_.out (by kernel_rfl)) (fun _ _ _ h => h) (Or.inl ⟨by rfl, ?_⟩) ?_ ?_
                          rotate_left
                          · intro w'
                            go_simp
                            with_reducible rfl
                          rotate_left
                          · simp only [Act.put, List.setIfInBounds_toArray, List.set_cons_zero, List.set_cons_succ, i64_w, i32_w]
                            rfl
                          refine pure_ (i := 14) (N := some 67) (v := ?_) (a' := ?_) #[true, true, true, true, true, false, true, false, false, false, false, true, true, true, true, false, false] rfl rfl (any_of HT_.out (by kernel_rfl)) (fun _ _ _ h => h) (Or.inl ⟨by rfl, ?_⟩) ?_ ?_
                          rotate_left
                          · intro w'
                            go_simp
                            with_reducible rfl
                          rotate_left
                          · simp only [Act.put, List.setIfInBounds_toArray, List.set_cons_zero, List.set_cons_succ, i64_w, i32_w]
                            rfl
                          refine take_ (i := 5) (N := some 58) (v := ?_) (a' := ?_) #[true, true, true, true, true, true, true, false, false, false, false, true, true, true, true, false, false] rfl rfl (take_ofW HT_.out HW_.out (by kernel_rfl)) (fun _ _ _ h => h) (Or.inl ⟨by rfl, ?_⟩) hHeld ?_ ?_
                          rotate_left
                          · intro w' _
                            go_simp
                            with_reducible rfl
                          rotate_left
                          · simp only [Act.put, List.setIfInBounds_toArray, List.set_cons_zero, List.set_cons_succ, i64_w, i32_w]
                            rfl
                          refine pure_ (i := 7) (N := some 60) (v := ?_) (a' := ?_) #[true, true, true, true, true, true, true, true, false, false, false, true, true, true, true, false, false] rfl rfl (any_of HT_.out (by kernel_rfl)) (fun _ _ _ h => h) (Or.inl ⟨by rfl, ?_⟩) ?_ ?_
                          rotate_left
                          · intro w'
                            go_simp
                            with_reducible rfl
                          rotate_left
                          · simp only [Act.put, List.setIfInBounds_toArray, List.set_cons_zero, List.set_cons_succ, i64_w, i32_w]
                            rfl
                          refine one_ (i := 8) (N := some 61) #[true, true, true, true, true, true, true, true, true, false, false, true, true, true, true, false, false] rfl rfl (one_of HT_.out (by kernel_rfl)) (by decide) (fun K hK => ?_)
                          refine Kd.R_lit_step (Kd.int .u8) _ 5 ?hg (N := 61) ?hd (xs := ([Go.bits .xor .u8 (bt t180 (ji14)) ((IntKind.u64.wrap (1 + (Int.tmod (IntKind.u64.wrap (a2)) 255))) % 256)] : List Int)) (inner := [.int .u8 (Go.bits .xor .u8 (bt t180 (ji14)) ((IntKind.u64.wrap (1 + (Int.tmod (IntKind.u64.wrap (a2)) 255))) % 256))]) (ok := fun _ => True) (okp := fun _ => True) ?hr ?hp (fun _ hk => hk) trivial (Below.refl _ _) (Nat.le_refl _) (by simp) ?_; (case hd => rfl); (case hg => rfl); (case hr => first | (go_simp; done) | (go_simp; rfl)); (case hp => exact (Reps.one (show Kd.M (Kd.int .u8) _ _ _ (Go.bits .xor .u8 (bt t180 (ji14)) ((IntKind.u64.wrap (1 + (Int.tmod (IntKind.u64.wrap (a2)) 255))) % 256)) [.int .u8 (Go.bits .xor .u8 (bt t180 (ji14)) ((IntKind.u64.wrap (1 + (Int.tmod (IntKind.u64.wrap (a2)) 255))) % 256))] from rfl) (Reps.none _ _)))
                          intro v184 w28 ho29 hb hg_ hnew_
                          clear hg_ hnew_
                          (first | rw [← Ny183.out] at ho29 | (simp only [Int.reduceToNat] at ho29; rw [← Ny183.out] at ho29))
                          have n0_ := Aside0.mk (Kd.R_lower ho29 (below_size (by repeat (first | (with_reducible first | exact HB.out | apply below_alloc | apply pw_below_drewN | apply below_drew1) | exact HB.out))))
                          have n1_ := Aside0.mk (below_step (by repeat (first | (with_reducible first | exact HB.out | apply below_alloc | apply pw_below_drewN | apply below_drew1) | exact HB.out)) hb)
                          clear HB
                          have HO185 := n0_
                          have HB := n1_
                          clear n0_ n1_
                          clear hb ho29
                          refine hK.out _ _ trivial (fun hHeld => ?_)
                          clear hK K
                          refine norm_ (a' := ?_) ?_ ?_
                          rotate_left
                          · show Act.put _ (some 61) _ = _
                            simp only [Act.put, List.setIfInBounds_toArray, List.set_cons_zero, List.set_cons_succ, i64_w, i32_w]
                            rfl
                          refine one_ (i := 9) (N := some 62) #[true, true, true, true, true, true, true, true, true, true, false, true, true, true, true, false, false] rfl rfl (one_of HT_.out (by kernel_rfl)) (by decide) (fun K hK => ?_)
                          have hcv30 := own_string (P := Try.prog) Try.underlying53 Try.underlying5 Try.underlying9 (Kd.own_of_R HO185.out)
                          refine value_ (w1 := ?_) (v := ?_) (by rfl) rfl ?_ ?_
                          rotate_left 2
                          · go_simp
                            constructor
                            · rfl
                            · rfl
                          clear hcv30
                          refine hK.out _ _ trivial (fun hHeld => ?_)
                          clear hK K
                          refine norm_ (a' := ?_) ?_ ?_
                          rotate_left
                          · show Act.put _ (some 62) _ = _
                            simp only [Act.put, List.setIfInBounds_toArray, List.set_cons_zero, List.set_cons_succ, i64_w, i32_w]
                            rfl
                          refine pure_ (i := 10) (N := some 63) (v := ?_) (a' := ?_) #[true, true, true, true, true, true, true, true, true, true, true, true, true, true, true, false, false] rfl rfl (any_of HT_.out (by kernel_rfl)) (fun _ _ _ h => h) (Or.inl ⟨by rfl, ?_⟩) ?_ ?_
                          rotate_left
                          · intro w'
                            go_simp
                            with_reducible rfl
                          rotate_left
                          · simp only [Act.put, List.setIfInBounds_toArray, List.set_cons_zero, List.set_cons_succ, i64_w, i32_w]
                            rfl
                          refine pure_ (i := 15) (N := some 68) (v := ?_) (a' := ?_) #[true, true, true, true, true, true, true, true, true, true, true, true, true, true, true, true, false] rfl rfl (any_of HT_.out (by kernel_rfl)) (fun _ _ _ h => h) (Or.inl ⟨by rfl, ?_⟩) ?_ ?_
                          rotate_left
                          · intro w'
                            go_simp
                            with_reducible rfl
                          rotate_left
                          · simp only [Act.put, List.setIfInBounds_toArray, List.set_cons_zero, List.set_cons_succ, i64_w, i32_w]
                            rfl
                          refine pure_ (i := 16) (N := some 11) (v := ?_) (a' := ?_) #[true, true, true, true, true, true, true, true, true, true, true, true, true, true, true, true, true] rfl rfl (any_of HT_.out (by kernel_rfl)) (fun _ _ _ h => h) (Or.inl ⟨by rfl, ?_⟩) ?_ ?_
                          rotate_left
                          · intro w'
                            go_simp
                            with_reducible rfl
                          rotate_left
                          · simp only [Act.put, List.setIfInBounds_toArray, List.set_cons_zero, List.set_cons_succ, i64_w, i32_w]
                            rfl
                          refine done_ (done_of HT_.out (by kernel_rfl)) ?_
                          go_upto_region 11 with (first | ((with_reducible refine gate_callee (f := 23) rfl ?_); refine goesL_ (some 71) rfl rfl Try.func23 (by kernel_rfl) rfl #[.string (((t180.extract 0 ((ji14) : Int).toNat) ++ (strOfNums y183)) ++ (t180.extract ((ji20) : Int).toNat t180.size))] rfl (by (try simp only [List.map_toArray, List.map_cons, List.map_nil]); first | done | (simp only [hji14, hji20]; rfl) | rfl | (simp only [List.length_drop, List.length_take]; rfl)) ?_; (with_reducible refine (journal_Decode.calls (((t180.extract 0 ((ji14) : Int).toNat) ++ (strOfNums y183)) ++ (t180.extract ((ji20) : Int).toNat t180.size)) t186 t187 t188 t189 _ A24.out).mono ?_); rintro e w31 ⟨v190, rfl, ho0, hb⟩; refine ⟨_, rfl, ?_⟩; have n0_ := Aside0.mk (Kd.R_below (by (with_reducible repeat (first | apply Kd.R_alloc | apply Kd.R_drewN | apply Kd.R_drew)); exact HO185.out) hb); have n1_ := Aside0.mk (Kd.R_lower ho0 (below_size (by repeat (first | (with_reducible first | exact HB.out | apply below_alloc | apply pw_below_drewN | apply below_drew1) | exact HB.out)))); have n2_ := Aside0.mk (below_step (by repeat (first | (with_reducible first | exact HB.out | apply below_alloc | apply pw_below_drewN | apply below_drew1) | exact HB.out)) hb); clear HO185; clear HB; have HO185 := n0_; have HO191 := n1_; have HB := n2_; clear n0_ n1_ n2_; (try clear hb); (try clear hb2); (try clear hk); (try clear hi); (try clear ho0)) | ((with_reducible refine gate_callee (f := 24) rfl ?_); refine goesL_ (some 78) rfl rfl Try.func24 (by kernel_rfl) rfl #[.string (((t180.extract 0 ((ji14) : Int).toNat) ++ (strOfNums y183)) ++ (t180.extract ((ji20) : Int).toNat t180.size))] rfl (by (try simp only [List.map_toArray, List.map_cons, List.map_nil]); first | done | (simp only [hji14, hji20]; rfl) | rfl | (simp only [List.length_drop, List.length_take]; rfl)) ?_; (with_reducible refine (ringworkref25_Decode.calls kj6 (((t180.extract 0 ((ji14) : Int).toNat) ++ (strOfNums y183)) ++ (t180.extract ((ji20) : Int).toNat t180.size)) t192 t193 t194 t195 t196 _ A25.out).mono ?_); rintro e w32 ⟨v197, rfl, ho0, hb⟩; refine ⟨_, rfl, ?_⟩; have n0_ := Aside0.mk (Kd.R_below (by (with_reducible repeat (first | apply Kd.R_alloc | apply Kd.R_drewN | apply Kd.R_drew)); exact HO185.out) hb); have n1_ := Aside0.mk (Kd.R_elder' (by (with_reducible repeat (first | apply Kd.R_alloc | apply Kd.R_drewN | apply Kd.R_drew)); exact HO191.out) (Kd.R_base ho0) hb); have n2_ := Aside0.mk (Kd.R_lower (Kd.R_new' ho0 (Kd.R_lt (by (with_reducible repeat (first | apply Kd.R_alloc | apply Kd.R_drewN | apply Kd.R_drew)); exact HO191.out))) (below_size (by repeat (first | (with_reducible first | exact HB.out | apply below_alloc | apply pw_below_drewN | apply below_drew1) | exact HB.out)))); have n3_ := Aside0.mk (below_step (by repeat (first | (with_reducible first | exact HB.out | apply below_alloc | apply pw_below_drewN | apply below_drew1) | exact HB.out)) hb); clear HO185; clear HO191; clear HB; have HO185 := n0_; have HO191 := n1_; have HO198 := n2_; have HB := n3_; clear n0_ n1_ n2_ n3_; (try clear hb); (try clear hb2); (try clear hk); (try clear hi); (try clear ho0)))
                          (try simp only [Act.put, List.setIfInBounds_toArray, List.set_cons_zero, List.set_cons_succ])
                          go_cut [102] (fun v102 wc => ∃ (kq : Nat) (x102_25 : Bool), v102 = .bool x102_25 ∧ Aside0 (ringworklaw25_JournalDamage.j1 kq t180 ji14 t186 t187 x102_25 = some r) ∧ Aside0 (kq ≤ kj6) ∧ Aside0 (Kd.R k39 39 wc w.heap.size (fun _ => True) v190 t186) ∧ Aside0 (Below w.heap.size w wc))
                          case first =>
                            have H := HC26.out
                            clear HC26
                            replace H := Option.bind_eq_some_iff.mp H
                            obtain ⟨t199, A330, H⟩ := H
                            replace H : (if t199 = true then (if t187 = t193 then (if (t188 != t194) = true then (ringworklaw25_JournalDamage.j1 kj6 t180 ji14 t186 t187 true) else (ringworklaw25_JournalDamage.j1 kj6 t180 ji14 t186 t187 (t189 != t196))) else (ringworklaw25_JournalDamage.j1 kj6 t180 ji14 t186 t187 true)) else (ringworklaw25_JournalDamage.j1 kj6 t180 ji14 t186 t187 true)) = some r := H
                            have A33 := Aside0.mk A330
                            clear A330
                            by_cases c34 : t199 = true
                            · subst c34
                              have H1 : (if t187 = t193 then (if (t188 != t194) = true then (ringworklaw25_JournalDamage.j1 kj6 t180 ji14 t186 t187 true) else (ringworklaw25_JournalDamage.j1 kj6 t180 ji14 t186 t187 (t189 != t196))) else (ringworklaw25_JournalDamage.j1 kj6 t180 ji14 t186 t187 true)) = some r := by rw [if_pos rfl] at H; exact H
                              clear H
                              have H := H1
                              clear H1
                              by_cases c35 : t187 = t193
                              · rw [if_pos c35] at H
                                have c35b0 : (t187 == t193) = true := beq_iff_eq.mpr c35
                                have c35b1 : (t187 != t193) = false := bne_eq_false_iff_eq.mpr c35
                                clear c35
                                (first | rw [c35b0] | (simp only [i64_w, i32_w]; rw [c35b0]) | skip)
                                by_cases c36 : (t188 != t194) = true
                                · rw [if_pos c36] at H
                                  have c36b0 : (t188 != t194) = true := c36
                                  (try (have c36b1 : decide (t188 = t194) = false := by simpa using c36))
                                  (try (have c36b2 : (t188 == t194) = false := by simpa using c36))
                                  (try (have c36b3 : ¬ (t188 = t194) := by simpa using c36))
                                  clear c36
                                  have H' := Aside0.mk H
                                  clear H
                                  obtain ⟨Ao37, co37, eo37⟩ := Kd.R_slice HO191.out
                                  subst eo37
                                  obtain ⟨Ao38, co38, eo38⟩ := Kd.R_slice HO198.out
                                  subst eo38
                                  go_wp2_with (first | ((with_reducible refine gate_callee (f := 25) rfl ?_); refine goesL_ (some 86) rfl rfl Try.func25 (by kernel_rfl) rfl #[.slice Ao37 t186.length co37, .slice Ao38 t192.length co38] rfl (by (try simp only [List.map_toArray, List.map_cons, List.map_nil]); first | done | rfl | (simp only [List.length_drop, List.length_take]; rfl)) ?_; (with_reducible refine (ringworkref25_SameNotes.calls kj6 _ _ t186 _ _ t192 true _ ?side1 ?side2 ?side3 ?side4 A33.out).mono ?_); (case side1 => repeat (first | exact (Kd.R_reads' HO191.out).2.2 | (with_reducible refine Kd.C_alloc ?_ _) | (with_reducible refine Kd.C_drewN ?_ _) | (with_reducible refine Kd.C_drew ?_))); (case side2 => exact (Kd.R_reads' HO191.out).2.1); (case side3 => repeat (first | exact (Kd.R_reads' HO198.out).2.2 | (with_reducible refine Kd.C_alloc ?_ _) | (with_reducible refine Kd.C_drewN ?_ _) | (with_reducible refine Kd.C_drew ?_))); (case side4 => exact (Kd.R_reads' HO198.out).2.1); rintro e w' ⟨rfl, ⟨nd, rfl⟩⟩; refine ⟨_, rfl, ?_⟩))
                                  go_meet
                                  case rel => exact ⟨_, (true), (by first | rfl | (simp; done) | (simp [*]; done)), H', ⟨by have := HJ6.out; first | omega | exact Nat.le_refl _⟩, ⟨by (with_reducible repeat (first | apply Kd.R_alloc | apply Kd.R_drewN | apply Kd.R_drew)); exact Kd.R_mono HO191.out (fun _ hk => trivial)⟩, ⟨by repeat (first | (with_reducible first | exact HB.out | apply below_alloc | apply pw_below_drewN | apply below_drew1) | exact HB.out)⟩⟩
                                · rw [if_neg c36] at H
                                  have c36b0 : (t188 != t194) = false := by simpa using c36
                                  (try (have c36b1 : decide (t188 = t194) = true := by simpa using c36))
                                  (try (have c36b2 : (t188 == t194) = true := by simpa using c36))
                                  clear c36
                                  have H' := Aside0.mk H
                                  clear H
                                  obtain ⟨Ao39, co39, eo39⟩ := Kd.R_slice HO191.out
                                  subst eo39
                                  obtain ⟨Ao40, co40, eo40⟩ := Kd.R_slice HO198.out
                                  subst eo40
                                  go_wp2_with (first | ((with_reducible refine gate_callee (f := 25) rfl ?_); refine goesL_ (some 86) rfl rfl Try.func25 (by kernel_rfl) rfl #[.slice Ao39 t186.length co39, .slice Ao40 t192.length co40] rfl (by (try simp only [List.map_toArray, List.map_cons, List.map_nil]); first | done | rfl | (simp only [List.length_drop, List.length_take]; rfl)) ?_; (with_reducible refine (ringworkref25_SameNotes.calls kj6 _ _ t186 _ _ t192 true _ ?side1 ?side2 ?side3 ?side4 A33.out).mono ?_); (case side1 => repeat (first | exact (Kd.R_reads' HO191.out).2.2 | (with_reducible refine Kd.C_alloc ?_ _) | (with_reducible refine Kd.C_drewN ?_ _) | (with_reducible refine Kd.C_drew ?_))); (case side2 => exact (Kd.R_reads' HO191.out).2.1); (case side3 => repeat (first | exact (Kd.R_reads' HO198.out).2.2 | (with_reducible refine Kd.C_alloc ?_ _) | (with_reducible refine Kd.C_drewN ?_ _) | (with_reducible refine Kd.C_drew ?_))); (case side4 => exact (Kd.R_reads' HO198.out).2.1); rintro e w' ⟨rfl, ⟨nd, rfl⟩⟩; refine ⟨_, rfl, ?_⟩))
                                  go_meet
                                  case rel => exact ⟨_, ((t189 != t196)), (by first | rfl | (simp; done) | (simp [*]; done)), H', ⟨by have := HJ6.out; first | omega | exact Nat.le_refl _⟩, ⟨by (with_reducible repeat (first | apply Kd.R_alloc | apply Kd.R_drewN | apply Kd.R_drew)); exact Kd.R_mono HO191.out (fun _ hk => trivial)⟩, ⟨by repeat (first | (with_reducible first | exact HB.out | apply below_alloc | apply pw_below_drewN | apply below_drew1) | exact HB.out)⟩⟩
                              · rw [if_neg c35] at H
                                have c35b0 : (t187 == t193) = false := beq_eq_false_iff_ne.mpr c35
                                have c35b1 : (t187 != t193) = true := bne_iff_ne.mpr c35
                                (first | rw [c35b0] | (simp only [i64_w, i32_w]; rw [c35b0]) | skip)
                                have H' := Aside0.mk H
                                clear H
                                obtain ⟨Ao41, co41, eo41⟩ := Kd.R_slice HO191.out
                                subst eo41
                                obtain ⟨Ao42, co42, eo42⟩ := Kd.R_slice HO198.out
                                subst eo42
                                go_wp2_with (first | ((with_reducible refine gate_callee (f := 25) rfl ?_); refine goesL_ (some 86) rfl rfl Try.func25 (by kernel_rfl) rfl #[.slice Ao41 t186.length co41, .slice Ao42 t192.length co42] rfl (by (try simp only [List.map_toArray, List.map_cons, List.map_nil]); first | done | rfl | (simp only [List.length_drop, List.length_take]; rfl)) ?_; (with_reducible refine (ringworkref25_SameNotes.calls kj6 _ _ t186 _ _ t192 true _ ?side1 ?side2 ?side3 ?side4 A33.out).mono ?_); (case side1 => repeat (first | exact (Kd.R_reads' HO191.out).2.2 | (with_reducible refine Kd.C_alloc ?_ _) | (with_reducible refine Kd.C_drewN ?_ _) | (with_reducible refine Kd.C_drew ?_))); (case side2 => exact (Kd.R_reads' HO191.out).2.1); (case side3 => repeat (first | exact (Kd.R_reads' HO198.out).2.2 | (with_reducible refine Kd.C_alloc ?_ _) | (with_reducible refine Kd.C_drewN ?_ _) | (with_reducible refine Kd.C_drew ?_))); (case side4 => exact (Kd.R_reads' HO198.out).2.1); rintro e w' ⟨rfl, ⟨nd, rfl⟩⟩; refine ⟨_, rfl, ?_⟩))
                                go_meet
                                case rel => exact ⟨_, (true), (by first | rfl | (simp; done) | (simp [*]; done)), H', ⟨by have := HJ6.out; first | omega | exact Nat.le_refl _⟩, ⟨by (with_reducible repeat (first | apply Kd.R_alloc | apply Kd.R_drewN | apply Kd.R_drew)); exact Kd.R_mono HO191.out (fun _ hk => trivial)⟩, ⟨by repeat (first | (with_reducible first | exact HB.out | apply below_alloc | apply pw_below_drewN | apply below_drew1) | exact HB.out)⟩⟩
                            · replace c34 := Bool.eq_false_iff.mpr c34
                              subst c34
                              have H1 : (ringworklaw25_JournalDamage.j1 kj6 t180 ji14 t186 t187 true) = some r := by rw [if_neg (show ¬ (false = true) by decide)] at H; exact H
                              clear H
                              have H := H1
                              clear H1
                              have H' := Aside0.mk H
                              clear H
                              obtain ⟨Ao43, co43, eo43⟩ := Kd.R_slice HO191.out
                              subst eo43
                              obtain ⟨Ao44, co44, eo44⟩ := Kd.R_slice HO198.out
                              subst eo44
                              go_wp2_with (first | ((with_reducible refine gate_callee (f := 25) rfl ?_); refine goesL_ (some 86) rfl rfl Try.func25 (by kernel_rfl) rfl #[.slice Ao43 t186.length co43, .slice Ao44 t192.length co44] rfl (by (try simp only [List.map_toArray, List.map_cons, List.map_nil]); first | done | rfl | (simp only [List.length_drop, List.length_take]; rfl)) ?_; (with_reducible refine (ringworkref25_SameNotes.calls kj6 _ _ t186 _ _ t192 false _ ?side1 ?side2 ?side3 ?side4 A33.out).mono ?_); (case side1 => repeat (first | exact (Kd.R_reads' HO191.out).2.2 | (with_reducible refine Kd.C_alloc ?_ _) | (with_reducible refine Kd.C_drewN ?_ _) | (with_reducible refine Kd.C_drew ?_))); (case side2 => exact (Kd.R_reads' HO191.out).2.1); (case side3 => repeat (first | exact (Kd.R_reads' HO198.out).2.2 | (with_reducible refine Kd.C_alloc ?_ _) | (with_reducible refine Kd.C_drewN ?_ _) | (with_reducible refine Kd.C_drew ?_))); (case side4 => exact (Kd.R_reads' HO198.out).2.1); rintro e w' ⟨rfl, ⟨nd, rfl⟩⟩; refine ⟨_, rfl, ?_⟩))
                              go_meet
                              case rel => exact ⟨_, (true), (by first | rfl | (simp; done) | (simp [*]; done)), H', ⟨by have := HJ6.out; first | omega | exact Nat.le_refl _⟩, ⟨by (with_reducible repeat (first | apply Kd.R_alloc | apply Kd.R_drewN | apply Kd.R_drew)); exact Kd.R_mono HO191.out (fun _ hk => trivial)⟩, ⟨by repeat (first | (with_reducible first | exact HB.out | apply below_alloc | apply pw_below_drewN | apply below_drew1) | exact HB.out)⟩⟩
                          case rest =>
                            clear HC26
                            try clear c1
                            try clear p1
                            try clear q1
                            try clear hx1
                            try clear c2
                            try clear p2
                            try clear c3
                            try clear hcv3
                            try clear c5
                            try clear p6
                            try clear c7
                            try clear c9
                            try clear c9b0
                            try clear c9b1
                            try clear c10
                            try clear c12
                            try clear c13
                            try clear c13b0
                            try clear c13b1
                            try clear c15
                            try clear c15b0
                            try clear c15b1
                            try clear c16
                            try clear c16b0
                            try clear c16b1
                            try clear c17
                            try clear c17b0
                            try clear p18
                            try clear q18
                            try clear hx18
                            try clear c19
                            try clear c19b0
                            try clear c19b1
                            try clear c19b2
                            try clear c21
                            try clear c21b0
                            try clear c21b1
                            try clear c22
                            try clear c22b0
                            try clear c22b1
                            try clear c23
                            try clear c23b0
                            try clear c23b1
                            try clear c23b2
                            try clear c24
                            try clear c25
                            try clear c26
                            try clear hcv30
                            try clear c34
                            try clear c35
                            try clear c35b0
                            try clear c35b1
                            try clear c36
                            try clear c36b0
                            try clear c36b1
                            try clear c36b2
                            try clear p18
                            try clear p2
                            try clear q18
                            obtain ⟨kq, x102_25, rfl, HA, HJ25, HO_12, HB⟩ := hcut
                            cases kq with
                            | zero => exact absurd HA.out (by simp [ringworklaw25_JournalDamage.j1])
                            | succ kj25 =>
                              have H := HA.out
                              clear HA
                              simp only [ringworklaw25_JournalDamage.j1] at H
                              by_cases c45 : x102_25 = true
                              · subst c45
                                have H1 : (some false) = some r := by rw [if_pos rfl] at H; exact H
                                clear H
                                have H := H1
                                clear H1
                                obtain rfl := Option.some.inj H
                                go_wp2
                                go_ret
                                exact ⟨by first | rfl | (simp [errW_none, errW_some] <;> rfl) | (simp only [← hji14, ← hji20]; first | rfl | (simp [errW_none, errW_some] <;> rfl)) | (simp [*, errW_none, errW_some] <;> rfl), by repeat (first | (with_reducible first | exact HB.out | apply below_alloc | apply pw_below_drewN | apply below_drew1) | exact HB.out)⟩
                              · replace c45 := Bool.eq_false_iff.mpr c45
                                subst c45
                                have H1 : (if 0 ≤ ji14 then (if ji14 ≤ (t180.size : Int) then ((ringworkref25_Decode.f kj25 (t180.extract 0 (ji14 : Int).toNat)).bind fun bt200 => (if (t186.length : Int) ≥ (bt200.1.length : Int) then (if t187 ≥ bt200.2.1 then (if 0 ≤ (bt200.1.length : Int) then (if (bt200.1.length : Int) ≤ (t186.length : Int) then ((ringworkref25_SameNotes.f kj25 (t186.take ((bt200.1.length : Int) : Int).toNat) bt200.1).bind fun t211 => (if t211 = true then ((ringworklaw25_awake.f).bind fun t212 => (some t212)) else (some false))) else (none)) else (none)) else (some false)) else (some false))) else (none)) else (none)) = some r := by rw [if_neg (show ¬ (false = true) by decide)] at H; exact H
                                clear H
                                have H := H1
                                clear H1
                                by_cases c46 : 0 ≤ ji14
                                · rw [if_pos c46] at H
                                  have c46b0 := eq_true c46
                                  have c46b1 : decide (0 ≤ ji14) = true := decide_eq_true c46
                                  clear c46
                                  by_cases c47 : ji14 ≤ (t180.size : Int)
                                  · rw [if_pos c47] at H
                                    have c47b0 := eq_true c47
                                    have c47b1 : decide (ji14 ≤ (t180.size : Int)) = true := decide_eq_true c47
                                    clear c47
                                    replace H := Option.bind_eq_some_iff.mp H
                                    obtain ⟨⟨t200, t201, t202, t203, t204⟩, A480, H⟩ := H
                                    replace H : (if (t186.length : Int) ≥ (t200.length : Int) then (if t187 ≥ t201 then (if 0 ≤ (t200.length : Int) then (if (t200.length : Int) ≤ (t186.length : Int) then ((ringworkref25_SameNotes.f kj25 (t186.take ((t200.length : Int) : Int).toNat) t200).bind fun t211 => (if t211 = true then ((ringworklaw25_awake.f).bind fun t212 => (some t212)) else (some false))) else (none)) else (none)) else (some false)) else (some false)) = some r := H
                                    have A48 := Aside0.mk A480
                                    clear A480
                                    by_cases c49 : (t186.length : Int) ≥ (t200.length : Int)
                                    · rw [if_pos c49] at H
                                      have c49b0 : decide ((t200.length : Int) ≤ (t186.length : Int)) = true := decide_eq_true c49
                                      have c49b1 : decide (t200.length ≤ t186.length) = true := decide_eq_true (Int.ofNat_le.mp c49)
                                      clear c49
                                      by_cases c50 : t187 ≥ t201
                                      · rw [if_pos c50] at H
                                        have c50b0 : decide (t201 ≤ t187) = true := decide_eq_true c50
                                        clear c50
                                        by_cases c51 : 0 ≤ (t200.length : Int)
                                        · rw [if_pos c51] at H
                                          have c51b0 := eq_true c51
                                          have c51b1 : decide (0 ≤ (t200.length : Int)) = true := decide_eq_true c51
                                          clear c51
                                          by_cases c52 : (t200.length : Int) ≤ (t186.length : Int)
                                          · rw [if_pos c52] at H
                                            have c52b0 := eq_true c52
                                            have c52b1 : decide ((t200.length : Int) ≤ (t186.length : Int)) = true := decide_eq_true c52
                                            clear c52
                                            obtain ⟨y207, hy207⟩ : ∃ y_ : List (S39), y_ = (t186.take ((t200.length : Int) : Int).toNat) := ⟨_, rfl⟩
                                            replace H : ((ringworkref25_SameNotes.f kj25 y207 t200).bind fun t211 => (if t211 = true then ((ringworklaw25_awake.f).bind fun t212 => (some t212)) else (some false))) = some r := by first | (rw [hy207]; with_reducible exact H) | (have H2_ := (Option.bind_some _ _).symm.trans H; rw [hy207]; with_reducible exact H2_) | (have H2_ := (Option.bind_some _ _).symm.trans H; with_reducible exact H2_) | with_reducible exact H | (rw [hy207]; exact H) | exact H
                                            have Ny207 := Aside0.mk hy207
                                            clear hy207
                                            replace H := Option.bind_eq_some_iff.mp H
                                            obtain ⟨t211, A530, H⟩ := H
                                            replace H : (if t211 = true then ((ringworklaw25_awake.f).bind fun t212 => (some t212)) else (some false)) = some r := H
                                            have A53 := Aside0.mk A530
                                            clear A530
                                            by_cases c54 : t211 = true
                                            · subst c54
                                              have H1 : ((ringworklaw25_awake.f).bind fun t212 => (some t212)) = some r := by rw [if_pos rfl] at H; exact H
                                              clear H
                                              have H := H1
                                              clear H1
                                              replace H := Option.bind_eq_some_iff.mp H
                                              obtain ⟨t212, A550, H⟩ := H
                                              replace H : (some t212) = some r := H
                                              have A55 := Aside0.mk A550
                                              clear A550
                                              obtain rfl := Option.some.inj H
                                              go_wp2_with (first | ((with_reducible refine gate_callee (f := 24) rfl ?_); refine goesL_ (some 107) rfl rfl Try.func24 (by kernel_rfl) rfl #[.string (t180.extract 0 (ji14 : Int).toNat)] rfl (by (try simp only [List.map_toArray, List.map_cons, List.map_nil]); first | done | (simp only [hji14]; rfl) | rfl | (simp only [List.length_drop, List.length_take]; rfl)) ?_; (with_reducible refine (ringworkref25_Decode.calls kj25 (t180.extract 0 (ji14 : Int).toNat) t200 t201 t202 t203 t204 _ A48.out).mono ?_); rintro e w56 ⟨v205, rfl, ho0, hb⟩; refine ⟨_, rfl, ?_⟩; have n0_ := Aside0.mk (Kd.R_elder' (by (with_reducible repeat (first | apply Kd.R_alloc | apply Kd.R_drewN | apply Kd.R_drew)); exact HO_12.out) (Kd.R_base ho0) hb); have n1_ := Aside0.mk (Kd.R_lower (Kd.R_new' ho0 (Kd.R_lt (by (with_reducible repeat (first | apply Kd.R_alloc | apply Kd.R_drewN | apply Kd.R_drew)); exact HO_12.out))) (below_size (by repeat (first | (with_reducible first | exact HB.out | apply below_alloc | apply pw_below_drewN | apply below_drew1) | exact HB.out)))); have n2_ := Aside0.mk (below_step (by repeat (first | (with_reducible first | exact HB.out | apply below_alloc | apply pw_below_drewN | apply below_drew1) | exact HB.out)) hb); clear HO_12; clear HB; have HO_12 := n0_; have HO206 := n1_; have HB := n2_; clear n0_ n1_ n2_; (try clear hb); (try clear hb2); (try clear hk); (try clear hi); (try clear ho0); obtain ⟨Ao57, co57, eo57⟩ := Kd.R_slice HO_12.out; subst eo57; obtain ⟨Ao58, co58, eo58⟩ := Kd.R_slice HO206.out; subst eo58; have q59 : ((t200.length : Int) : Int) ≤ ((t186.length : Int) : Int) := of_decide_eq_true (by first | (with_reducible assumption) | assumption); obtain ⟨i059, hi059, _, hsz59, _⟩ := info_parts info39; have hroom59 : t186.length ≤ co57 := (Kd.R_reads' HO_12.out).2.1; have hC59 : Kd.C k39 _ Ao57 t186.length t186 := (Kd.R_reads' HO_12.out).2.2; have hcut59 := cut_to (P := Try.prog) 23 39 .i64 Try.underlying23 hi059 Ao57 t186.length co57 (t200.length : Int) (of_decide_eq_true (by first | (with_reducible assumption) | assumption)) q59 hroom59; have hr59 := Kd.C_take (m := ((t200.length : Int) : Int).toNat) hC59 (by omega); have hy59 : y207.length = ((t200.length : Int) : Int).toNat := (by rw [Ny207.out, List.length_take]; omega); rw [← Ny207.out] at hr59; rw [← hy59] at hcut59; have HR210 := Aside0.mk hr59; have HC210 := Aside0.mk (show y207.length ≤ co57 from by omega); clear hr59 hC59 hroom59 hi059 hsz59; have KY59 := Aside0.mk hy59; clear hy59; have KL59 := Aside0.mk (show ((t200.length : Int) : Int).toNat ≤ t186.length from by omega); replace q59 := eq_true q59) | (go_at_call 25; (with_reducible refine (ringworkref25_SameNotes.calls kj25 _ _ y207 _ _ t200 true _ ?side1 ?side2 ?side3 ?side4 A53.out).mono ?_); (case side1 => repeat (first | exact (by repeat (first | (with_reducible exact HR210.out) | (with_reducible refine Kd.C_alloc ?_ _) | (with_reducible refine Kd.C_drewN ?_ _) | (with_reducible refine Kd.C_drew ?_) | exact HR210.out)) | (with_reducible refine Kd.C_alloc ?_ _) | (with_reducible refine Kd.C_drewN ?_ _) | (with_reducible refine Kd.C_drew ?_))); (case side2 => exact HC210.out); (case side3 => repeat (first | exact (Kd.R_reads' HO206.out).2.2 | (with_reducible refine Kd.C_alloc ?_ _) | (with_reducible refine Kd.C_drewN ?_ _) | (with_reducible refine Kd.C_drew ?_))); (case side4 => exact (Kd.R_reads' HO206.out).2.1); rintro e w' ⟨rfl, ⟨nd, rfl⟩⟩) | (go_at_call 12; (with_reducible refine (ringworklaw25_awake.calls  t212 _ A55.out).mono ?_); rintro e w60 ⟨rfl, hb⟩; have n0_ := Aside0.mk (Kd.R_below (by (with_reducible repeat (first | apply Kd.R_alloc | apply Kd.R_drewN | apply Kd.R_drew)); exact HO_12.out) hb); have n1_ := Aside0.mk (Kd.R_below (by (with_reducible repeat (first | apply Kd.R_alloc | apply Kd.R_drewN | apply Kd.R_drew)); exact HO206.out) hb); have n2_ := Aside0.mk (Kd.C_below (by repeat (first | (with_reducible exact HR210.out) | (with_reducible refine Kd.C_alloc ?_ _) | (with_reducible refine Kd.C_drewN ?_ _) | (with_reducible refine Kd.C_drew ?_) | exact HR210.out)) hb); have n3_ := Aside0.mk (below_step (by repeat (first | (with_reducible first | exact HB.out | apply below_alloc | apply pw_below_drewN | apply below_drew1) | exact HB.out)) hb); clear HO_12; clear HO206; clear HR210; clear HB; have HO_12 := n0_; have HO206 := n1_; have HR210 := n2_; have HB := n3_; clear n0_ n1_ n2_ n3_; (try clear hb); (try clear hb2); (try clear hk); (try clear hi)))
                                              go_ret
                                              exact ⟨by first | rfl | (simp [errW_none, errW_some] <;> rfl) | (simp only [← hji14, ← hji20]; first | rfl | (simp [errW_none, errW_some] <;> rfl)) | (simp [*, errW_none, errW_some] <;> rfl), by repeat (first | (with_reducible first | exact HB.out | apply below_alloc | apply pw_below_drewN | apply below_drew1) | exact HB.out)⟩
                                            · replace c54 := Bool.eq_false_iff.mpr c54
                                              subst c54
                                              have H1 : (some false) = some r := by rw [if_neg (show ¬ (false = true) by decide)] at H; exact H
                                              clear H
                                              have H := H1
                                              clear H1
                                              obtain rfl := Option.some.inj H
                                              go_wp2_with (first | ((with_reducible refine gate_callee (f := 24) rfl ?_); refine goesL_ (some 107) rfl rfl Try.func24 (by kernel_rfl) rfl #[.string (t180.extract 0 (ji14 : Int).toNat)] rfl (by (try simp only [List.map_toArray, List.map_cons, List.map_nil]); first | done | (simp only [hji14]; rfl) | rfl | (simp only [List.length_drop, List.length_take]; rfl)) ?_; (with_reducible refine (ringworkref25_Decode.calls kj25 (t180.extract 0 (ji14 : Int).toNat) t200 t201 t202 t203 t204 _ A48.out).mono ?_); rintro e w61 ⟨v205, rfl, ho0, hb⟩; refine ⟨_, rfl, ?_⟩; have n0_ := Aside0.mk (Kd.R_elder' (by (with_reducible repeat (first | apply Kd.R_alloc | apply Kd.R_drewN | apply Kd.R_drew)); exact HO_12.out) (Kd.R_base ho0) hb); have n1_ := Aside0.mk (Kd.R_lower (Kd.R_new' ho0 (Kd.R_lt (by (with_reducible repeat (first | apply Kd.R_alloc | apply Kd.R_drewN | apply Kd.R_drew)); exact HO_12.out))) (below_size (by repeat (first | (with_reducible first | exact HB.out | apply below_alloc | apply pw_below_drewN | apply below_drew1) | exact HB.out)))); have n2_ := Aside0.mk (below_step (by repeat (first | (with_reducible first | exact HB.out | apply below_alloc | apply pw_below_drewN | apply below_drew1) | exact HB.out)) hb); clear HO_12; clear HB; have HO_12 := n0_; have HO206 := n1_; have HB := n2_; clear n0_ n1_ n2_; (try clear hb); (try clear hb2); (try clear hk); (try clear hi); (try clear ho0); obtain ⟨Ao62, co62, eo62⟩ := Kd.R_slice HO_12.out; subst eo62; obtain ⟨Ao63, co63, eo63⟩ := Kd.R_slice HO206.out; subst eo63; have q64 : ((t200.length : Int) : Int) ≤ ((t186.length : Int) : Int) := of_decide_eq_true (by first | (with_reducible assumption) | assumption); obtain ⟨i064, hi064, _, hsz64, _⟩ := info_parts info39; have hroom64 : t186.length ≤ co62 := (Kd.R_reads' HO_12.out).2.1; have hC64 : Kd.C k39 _ Ao62 t186.length t186 := (Kd.R_reads' HO_12.out).2.2; (try clear hcut59); have hcut64 := cut_to (P := Try.prog) 23 39 .i64 Try.underlying23 hi064 Ao62 t186.length co62 (t200.length : Int) (of_decide_eq_true (by first | (with_reducible assumption) | assumption)) q64 hroom64; have hr64 := Kd.C_take (m := ((t200.length : Int) : Int).toNat) hC64 (by omega); have hy64 : y207.length = ((t200.length : Int) : Int).toNat := (by rw [Ny207.out, List.length_take]; omega); rw [← Ny207.out] at hr64; rw [← hy64] at hcut64; have HR210 := Aside0.mk hr64; have HC210 := Aside0.mk (show y207.length ≤ co62 from by omega); clear hr64 hC64 hroom64 hi064 hsz64; have KY64 := Aside0.mk hy64; clear hy64; have KL64 := Aside0.mk (show ((t200.length : Int) : Int).toNat ≤ t186.length from by omega); replace q64 := eq_true q64) | (go_at_call 25; (with_reducible refine (ringworkref25_SameNotes.calls kj25 _ _ y207 _ _ t200 false _ ?side1 ?side2 ?side3 ?side4 A53.out).mono ?_); (case side1 => repeat (first | exact (by repeat (first | (with_reducible exact HR210.out) | (with_reducible refine Kd.C_alloc ?_ _) | (with_reducible refine Kd.C_drewN ?_ _) | (with_reducible refine Kd.C_drew ?_) | exact HR210.out)) | (with_reducible refine Kd.C_alloc ?_ _) | (with_reducible refine Kd.C_drewN ?_ _) | (with_reducible refine Kd.C_drew ?_))); (case side2 => exact HC210.out); (case side3 => repeat (first | exact (Kd.R_reads' HO206.out).2.2 | (with_reducible refine Kd.C_alloc ?_ _) | (with_reducible refine Kd.C_drewN ?_ _) | (with_reducible refine Kd.C_drew ?_))); (case side4 => exact (Kd.R_reads' HO206.out).2.1); rintro e w' ⟨rfl, ⟨nd, rfl⟩⟩))
                                              go_ret
                                              exact ⟨by first | rfl | (simp [errW_none, errW_some] <;> rfl) | (simp only [← hji14, ← hji20]; first | rfl | (simp [errW_none, errW_some] <;> rfl)) | (simp [*, errW_none, errW_some] <;> rfl), by repeat (first | (with_reducible first | exact HB.out | apply below_alloc | apply pw_below_drewN | apply below_drew1) | exact HB.out)⟩
                                          · rw [if_neg c52] at H
                                            exact absurd H (by simp)
                                        · rw [if_neg c51] at H
                                          exact absurd H (by simp)
                                      · rw [if_neg c50] at H
                                        have c50b0 : decide (t201 ≤ t187) = false := decide_eq_false c50
                                        clear c50
                                        obtain rfl := Option.some.inj H
                                        go_wp2_with (first | ((with_reducible refine gate_callee (f := 24) rfl ?_); refine goesL_ (some 107) rfl rfl Try.func24 (by kernel_rfl) rfl #[.string (t180.extract 0 (ji14 : Int).toNat)] rfl (by (try simp only [List.map_toArray, List.map_cons, List.map_nil]); first | done | (simp only [hji14]; rfl) | rfl | (simp only [List.length_drop, List.length_take]; rfl)) ?_; (with_reducible refine (ringworkref25_Decode.calls kj25 (t180.extract 0 (ji14 : Int).toNat) t200 t201 t202 t203 t204 _ A48.out).mono ?_); rintro e w65 ⟨v205, rfl, ho0, hb⟩; refine ⟨_, rfl, ?_⟩; have n0_ := Aside0.mk (Kd.R_elder' (by (with_reducible repeat (first | apply Kd.R_alloc | apply Kd.R_drewN | apply Kd.R_drew)); exact HO_12.out) (Kd.R_base ho0) hb); have n1_ := Aside0.mk (Kd.R_lower (Kd.R_new' ho0 (Kd.R_lt (by (with_reducible repeat (first | apply Kd.R_alloc | apply Kd.R_drewN | apply Kd.R_drew)); exact HO_12.out))) (below_size (by repeat (first | (with_reducible first | exact HB.out | apply below_alloc | apply pw_below_drewN | apply below_drew1) | exact HB.out)))); have n2_ := Aside0.mk (below_step (by repeat (first | (with_reducible first | exact HB.out | apply below_alloc | apply pw_below_drewN | apply below_drew1) | exact HB.out)) hb); clear HO_12; clear HB; have HO_12 := n0_; have HO206 := n1_; have HB := n2_; clear n0_ n1_ n2_; (try clear hb); (try clear hb2); (try clear hk); (try clear hi); (try clear ho0); obtain ⟨Ao66, co66, eo66⟩ := Kd.R_slice HO_12.out; subst eo66; obtain ⟨Ao67, co67, eo67⟩ := Kd.R_slice HO206.out; subst eo67))
                                        go_ret
                                        exact ⟨by first | rfl | (simp [errW_none, errW_some] <;> rfl) | (simp only [← hji14, ← hji20]; first | rfl | (simp [errW_none, errW_some] <;> rfl)) | (simp [*, errW_none, errW_some] <;> rfl), by repeat (first | (with_reducible first | exact HB.out | apply below_alloc | apply pw_below_drewN | apply below_drew1) | exact HB.out)⟩
                                    · rw [if_neg c49] at H
                                      have c49b0 : decide ((t200.length : Int) ≤ (t186.length : Int)) = false := decide_eq_false c49
                                      have c49b1 : decide (t200.length ≤ t186.length) = false := decide_eq_false (fun h => c49 (Int.ofNat_le.mpr h))
                                      clear c49
                                      obtain rfl := Option.some.inj H
                                      go_wp2_with (first | ((with_reducible refine gate_callee (f := 24) rfl ?_); refine goesL_ (some 107) rfl rfl Try.func24 (by kernel_rfl) rfl #[.string (t180.extract 0 (ji14 : Int).toNat)] rfl (by (try simp only [List.map_toArray, List.map_cons, List.map_nil]); first | done | (simp only [hji14]; rfl) | rfl | (simp only [List.length_drop, List.length_take]; rfl)) ?_; (with_reducible refine (ringworkref25_Decode.calls kj25 (t180.extract 0 (ji14 : Int).toNat) t200 t201 t202 t203 t204 _ A48.out).mono ?_); rintro e w68 ⟨v205, rfl, ho0, hb⟩; refine ⟨_, rfl, ?_⟩; have n0_ := Aside0.mk (Kd.R_elder' (by (with_reducible repeat (first | apply Kd.R_alloc | apply Kd.R_drewN | apply Kd.R_drew)); exact HO_12.out) (Kd.R_base ho0) hb); have n1_ := Aside0.mk (Kd.R_lower (Kd.R_new' ho0 (Kd.R_lt (by (with_reducible repeat (first | apply Kd.R_alloc | apply Kd.R_drewN | apply Kd.R_drew)); exact HO_12.out))) (below_size (by repeat (first | (with_reducible first | exact HB.out | apply below_alloc | apply pw_below_drewN | apply below_drew1) | exact HB.out)))); have n2_ := Aside0.mk (below_step (by repeat (first | (with_reducible first | exact HB.out | apply below_alloc | apply pw_below_drewN | apply below_drew1) | exact HB.out)) hb); clear HO_12; clear HB; have HO_12 := n0_; have HO206 := n1_; have HB := n2_; clear n0_ n1_ n2_; (try clear hb); (try clear hb2); (try clear hk); (try clear hi); (try clear ho0); obtain ⟨Ao69, co69, eo69⟩ := Kd.R_slice HO_12.out; subst eo69; obtain ⟨Ao70, co70, eo70⟩ := Kd.R_slice HO206.out; subst eo70))
                                      go_ret
                                      exact ⟨by first | rfl | (simp [errW_none, errW_some] <;> rfl) | (simp only [← hji14, ← hji20]; first | rfl | (simp [errW_none, errW_some] <;> rfl)) | (simp [*, errW_none, errW_some] <;> rfl), by repeat (first | (with_reducible first | exact HB.out | apply below_alloc | apply pw_below_drewN | apply below_drew1) | exact HB.out)⟩
                                  · rw [if_neg c47] at H
                                    exact absurd H (by simp)
                                · rw [if_neg c46] at H
                                  exact absurd H (by simp)
                        · rw [if_neg c23] at H
                          exact absurd H (by simp)
                      · rw [if_neg c22] at H
                        exact absurd H (by simp)
                    · rw [if_neg c21] at H
                      exact absurd H (by simp)
                  · rw [if_neg c19] at H
                    exact absurd H (by simp)
                · rw [if_neg c17] at H
                  exact absurd H (by simp)
              · rw [if_neg c16] at H
                exact absurd H (by simp)
            · rw [if_neg c15] at H
              exact absurd H (by simp)
  · replace c5 := Bool.eq_false_iff.mpr c5
    subst c5
    have H1 : ((ringworklaw25_awake.f).bind fun t179 => (some t179)) = some r := by rw [if_neg (show ¬ (false = true) by decide)] at H; exact H
    clear H
    have H := H1
    clear H1
    replace H := Option.bind_eq_some_iff.mp H
    obtain ⟨t179, A710, H⟩ := H
    replace H : (some t179) = some r := H
    have A71 := Aside0.mk A710
    clear A710
    obtain rfl := Option.some.inj H
    go_enter Try.func7, Try.ntmps7
    go_wp2_with (first | ((with_reducible refine gate_callee (f := 10) rfl ?_); refine goesL_ (some 26) rfl rfl Try.func10 (by kernel_rfl) rfl #[.slice A0 l0.length c0] rfl (by (try simp only [List.map_toArray, List.map_cons, List.map_nil]); first | done | rfl | (simp only [List.length_drop, List.length_take]; rfl)) ?_; (with_reducible refine (ringworklaw25_Notes.calls k _ _ l0 false _ ?side1 ?side2 A4.out).mono ?_); (case side1 => repeat (first | exact HR0.out | (with_reducible refine Kd.C_alloc ?_ _) | (with_reducible refine Kd.C_drewN ?_ _) | (with_reducible refine Kd.C_drew ?_))); (case side2 => exact HC0.out); rintro e w' ⟨rfl, ⟨nd, rfl⟩⟩; refine ⟨_, rfl, ?_⟩) | ((with_reducible refine gate_callee (f := 12) rfl ?_); refine goesL_ (some 28) rfl rfl Try.func12 (by kernel_rfl) rfl #[] rfl (by (try simp only [List.map_toArray, List.map_cons, List.map_nil]); first | done | rfl | (simp only [List.length_drop, List.length_take]; rfl)) ?_; (with_reducible refine (ringworklaw25_awake.calls  t179 _ A71.out).mono ?_); rintro e w72 ⟨rfl, hb⟩; refine ⟨_, rfl, ?_⟩; have n0_ := Aside0.mk (below_step (by repeat (first | (with_reducible first | exact HB.out | apply below_alloc | apply pw_below_drewN | apply below_drew1) | exact HB.out)) hb); clear HB; have HB := n0_; clear n0_; (try clear hb); (try clear hb2); (try clear hk); (try clear hi)))
    go_ret
    exact ⟨by first | rfl | (simp [errW_none, errW_some] <;> rfl) | (simp [*, errW_none, errW_some] <;> rfl), by repeat (first | (with_reducible first | exact HB.out | apply below_alloc | apply pw_below_drewN | apply below_drew1) | exact HB.out)⟩

end Go.Proofs.Yteblpjnkinghoaa.J
/- A note's bytes, and what a valid note is like. -/
set_option linter.unusedVariables false
set_option linter.unusedSimpArgs false
namespace Go.Proofs.Yteblpjnkinghoaa.J
open Go.RowKit Go.Proofs.YteblpjnkinghoaaW.PrintWords Go.Proofs.YteblpjnkinghoaaW.PrintLast Go.Proofs.YteblpjnkinghoaaW.PrintMore
/-- A note's bytes up to its sum. -/
def wr (n : S39) : ByteArray := wrL n.f0 n.f1 n.f2 n.f3 n.f4
theorem wr_size (n : S39) : (wr n).size = 8 + n.f2.size + n.f4.size := by
  unfold wr wrL
  rw [strOfNums_size]
  simp only [List.length_append, List.length_cons, List.length_nil, bytesOf_length]
  omega
/-- The notes' bytes behind a sum. -/
def allB : Int → List S39 → ByteArray
  | _, [] => ⟨#[]⟩
  | last, n :: l => (wr n ++ eightS (sumF last (wr n))) ++ allB (sumF last (wr n)) l
theorem plain_facts {f0 f1 : Int} {f2 : ByteArray} {f3 : Bool} {f4 : ByteArray} (h : (journal_plain.f f0 f1 f2 f3 f4).getD false = true) : 1 ≤ f1 ∧ f1 ≤ 1000 ∧ f2.size = 0 ∧ f3 = false ∧ f4.size = 0 := by
  unfold journal_plain.f journal_unit.f at h
  by_cases a1 : 1 ≤ f1
  · by_cases a2 : f1 ≤ 1000
    · by_cases a3 : f2.toList = []
      · cases f3
        · simp [a1, a2, a3] at h
          exact ⟨a1, a2, (toList_nil_iff f2).1 a3, rfl, (toList_nil_iff f4).1 h⟩
        · simp [a1, a2, a3] at h
      · simp [a1, a2, a3] at h
    · simp [a1, a2] at h
  · simp [a1] at h
theorem imaged_facts {f0 f1 : Int} {f2 : ByteArray} {f3 : Bool} {f4 : ByteArray} (h : (journal_imaged.f f0 f1 f2 f3 f4).getD false = true) : 1 ≤ f1 ∧ f1 ≤ 1000 ∧ 1 ≤ f2.size ∧ f2.size ≤ 40 ∧ f4.size ≤ 4000 ∧ (f3 = false → f4.size = 0) := by
  unfold journal_imaged.f journal_unit.f at h
  by_cases a1 : 1 ≤ f1
  · by_cases a2 : f1 ≤ 1000
    · by_cases a3 : f2.toList = []
      · simp [a1, a2, a3] at h
      · have a3' : f2.size ≠ 0 := fun e => a3 ((toList_nil_iff f2).2 e)
        by_cases a4 : (f2.size : Int) ≤ 40
        · by_cases a5 : (f4.size : Int) ≤ 4000
          · cases f3
            · simp [a1, a2, a3, a4, a5] at h
              exact ⟨a1, a2, by omega, by omega, by omega, fun _ => (toList_nil_iff f4).1 h⟩
            · exact ⟨a1, a2, by omega, by omega, by omega, fun h => by cases h⟩
          · simp [a1, a2, a3, a4, a5] at h
        · simp [a1, a2, a3, a4] at h
    · simp [a1, a2] at h
  · simp [a1] at h
theorem named_facts {f0 f1 : Int} {f2 : ByteArray} {f3 : Bool} {f4 : ByteArray} (h : (journal_named.f f0 f1 f2 f3 f4).getD false = true) : f1 = 0 ∧ f2.size = 0 ∧ f3 = false ∧ 1 ≤ f4.size ∧ f4.size ≤ 40 := by
  unfold journal_named.f at h
  by_cases a1 : f1 = 0
  · by_cases a2 : f2.toList = []
    · cases f3
      · by_cases a3 : f4.toList = []
        · simp [a1, a2, a3] at h
        · have a3' : f4.size ≠ 0 := fun e => a3 ((toList_nil_iff f4).2 e)
          simp [a1, a2, a3] at h
          exact ⟨a1, (toList_nil_iff f2).1 a2, rfl, by omega, by omega⟩
      · simp [a1, a2] at h
    · simp [a1, a2] at h
  · simp [a1] at h
/-- What a valid note is like. -/
structure VNote (n : S39) : Prop where
  k1 : 1 ≤ n.f0
  k7 : n.f0 ≤ 7
  named : n.f0 = 6 → n.f1 = 0 ∧ n.f2.size = 0 ∧ n.f3 = false ∧ 1 ≤ n.f4.size ∧ n.f4.size ≤ 40
  imaged : n.f0 = 2 ∨ n.f0 = 3 → 1 ≤ n.f1 ∧ n.f1 ≤ 1000 ∧ 1 ≤ n.f2.size ∧ n.f2.size ≤ 40 ∧ n.f4.size ≤ 4000 ∧ (n.f3 = false → n.f4.size = 0)
  plain : n.f0 ≠ 6 → ¬ (n.f0 = 2 ∨ n.f0 = 3) → 1 ≤ n.f1 ∧ n.f1 ≤ 1000 ∧ n.f2.size = 0 ∧ n.f3 = false ∧ n.f4.size = 0
theorem vld_note {n : S39} (h : vld n = true) : VNote n := by
  unfold vld journal_Valid.f at h
  by_cases h1 : n.f0 < 1
  · rw [if_pos h1] at h; cases h
  rw [if_neg h1] at h
  by_cases h7 : 7 < n.f0
  · rw [if_pos h7] at h; cases h
  rw [if_neg h7] at h
  by_cases h23 : n.f0 = 2 ∨ n.f0 = 3
  · rw [if_pos h23] at h
    exact ⟨by omega, by omega, fun _ => by omega, fun _ => imaged_facts h, fun _ hn => absurd h23 hn⟩
  · rw [if_neg h23] at h
    by_cases h6 : n.f0 = 6
    · rw [if_pos h6] at h
      exact ⟨by omega, by omega, fun _ => named_facts h, fun h => absurd h h23, fun hn => absurd h6 hn⟩
    · rw [if_neg h6] at h
      exact ⟨by omega, by omega, fun h => absurd h h6, fun h => absurd h h23, fun _ _ => plain_facts h⟩
theorem vld_sizes {n : S39} (h : vld n = true) : n.f2.size ≤ 40 ∧ n.f4.size ≤ 4000 := by
  have hn := vld_note h
  by_cases h6 : n.f0 = 6
  · have := hn.named h6; omega
  · by_cases h23 : n.f0 = 2 ∨ n.f0 = 3
    · have := hn.imaged h23; omega
    · have := hn.plain h6 h23; omega
theorem ref_written (n : S39) (h : vld n = true) : ringworkref25_written.f n.f0 n.f1 n.f2 n.f3 n.f4 = some (wr n) := by
  have hn := vld_note h
  have hs := vld_sizes h
  have h1 := hn.k1
  have h7 := hn.k7
  have hu : 0 ≤ n.f1 ∧ n.f1 ≤ 1000 := by
    by_cases h6 : n.f0 = 6
    · have := hn.named h6; omega
    · by_cases h23 : n.f0 = 2 ∨ n.f0 = 3
      · have := hn.imaged h23; omega
      · have := hn.plain h6 h23; omega
  unfold ringworkref25_written.f
  rw [if_pos ⟨⟨h1, h7⟩, hu, by omega, by omega⟩]
  rfl
theorem empty_append (a : ByteArray) : (⟨#[]⟩ : ByteArray) ++ a = a := by
  apply ByteArray.ext; simp
theorem append_empty (a : ByteArray) : a ++ (⟨#[]⟩ : ByteArray) = a := by
  apply ByteArray.ext; simp
end Go.Proofs.Yteblpjnkinghoaa.J
/- What Encode answers: the notes' bytes. The reference's written, all and Encode. -/
set_option linter.unusedVariables false
set_option linter.unusedSimpArgs false
namespace Go.Proofs.Yteblpjnkinghoaa.J
open Go.RowKit Go.Proofs.YteblpjnkinghoaaW.PrintWords Go.Proofs.YteblpjnkinghoaaW.PrintLast Go.Proofs.YteblpjnkinghoaaW.PrintMore
/-- The guard on notes. -/
theorem notes_guard_from (l : List S39) (hl : l.length ≤ 9223372036854775807) : ∀ (d i : Nat), d = 60 - i → i ≤ 60 → ∀ s : Int, ∃ b, Ev (fun k => ringworklaw25_Notes.l0 k l s (i : Int)) b ∧ (b = true → l.length ≤ 60) := by
  intro d
  induction d with
  | zero =>
    intro i hd hi s
    have : i = 60 := by omega
    subst this
    by_cases hn : (l.length : Int) ≤ 60
    · exact ⟨_, Ev.step (fun k => by rw [ringworklaw25_Notes.l0, if_neg (by omega), if_pos hn]) (Ev.val (decide (s ≤ 6000))), fun _ => by omega⟩
    · exact ⟨false, Ev.step (fun k => by rw [ringworklaw25_Notes.l0, if_pos (by omega), if_neg (by decide), if_neg hn]) (Ev.val false), fun h => by cases h⟩
  | succ d ih =>
    intro i hd hi s
    by_cases hlt : i < l.length
    · obtain ⟨b, hb, hbb⟩ := ih (i + 1) (by omega) (by omega) (wrap64 ((wrap64 (s + (((rd_T39 l (i : Int)).f2).size : Int))) + (((rd_T39 l (i : Int)).f4).size : Int)))
      refine ⟨b, Ev.step (fun k => by rw [ringworklaw25_Notes.l0, if_pos (by omega), if_pos (by omega), if_pos (by omega), wrap_nx hlt hl]) hb, hbb⟩
    · exact ⟨_, Ev.step (fun k => by rw [ringworklaw25_Notes.l0, if_neg (by omega), if_pos (by omega)]) (Ev.val (decide (s ≤ 6000))), fun _ => by omega⟩
theorem notes_guard (l : List S39) (hl : l.length ≤ 9223372036854775807) : ∃ b, Ev (fun k => ringworklaw25_Notes.f k l) b ∧ (b = true → l.length ≤ 60) := notes_guard_from l hl 60 0 rfl (by omega) 0
theorem ref_all_from (l : List S39) (hv : ∀ n ∈ l, vld n = true) (hl : l.length ≤ 1000) : ∀ (d i : Nat), d = l.length - i → i ≤ l.length → ∀ (last : Int) (out : ByteArray), out.size ≤ 10000 * i →
    Ev (fun k => ringworkref25_all.l0 k last l out (i : Int)) (out ++ allB last (l.drop i))
  | 0, i, hd, hi, last, out, ho => by
    have : i = l.length := by omega
    subst this
    rw [List.drop_length, allB, append_empty]
    exact Ev.step (fun k => by rw [ringworkref25_all.l0, if_neg (by omega)]) (Ev.val _)
  | d + 1, i, hd, hi, last, out, ho => by
    have hlt : i < l.length := by omega
    have hm : rd_T39 l (i : Int) ∈ l := by
      unfold rd_T39
      rw [Int.toNat_natCast, List.getD_eq_getElem?_getD, List.getElem?_eq_getElem hlt]
      exact List.getElem_mem hlt
    have hs := vld_sizes (hv _ hm)
    have hw := wr_size (rd_T39 l (i : Int))
    rw [drop_rd hlt, allB]
    have hsum : ringworkref25_Sum.f last (wr (rd_T39 l (i : Int))) = some (sumF last (wr (rd_T39 l (i : Int)))) := by
      unfold ringworkref25_Sum.f; rw [if_pos (by omega)]
    have h8 := eightS_size (sumF last (wr (rd_T39 l (i : Int))))
    refine Ev.step (fun k => by rw [ringworkref25_all.l0, if_pos (by omega), if_pos (by omega), ref_written _ (hv _ hm), Option.bind_some, hsum, Option.bind_some, if_pos (by omega), ringworkref25_eight.f, Option.bind_some, if_pos (by rw [ByteArray.size_append, h8]; omega), wrap_nx hlt (by omega)]) ?_
    have := ref_all_from l hv hl d (i + 1) (by omega) (by omega) (sumF last (wr (rd_T39 l (i : Int)))) ((out ++ wr (rd_T39 l (i : Int))) ++ eightS (sumF last (wr (rd_T39 l (i : Int))))) (by rw [ByteArray.size_append, ByteArray.size_append, h8]; omega)
    rw [ByteArray.append_assoc, ByteArray.append_assoc] at this
    rw [ByteArray.append_assoc]
    exact this
theorem ref_all (last : Int) (l : List S39) (hv : ∀ n ∈ l, vld n = true) (hl : l.length ≤ 1000) : Ev (fun k => ringworkref25_all.f k last l) (allB last l) := by
  have := ref_all_from l hv hl l.length 0 (by omega) (by omega) last ⟨#[]⟩ (Nat.le_of_eq rfl)
  rw [empty_append, List.drop_zero] at this
  exact this
/-- What Encode answers. -/
def encV (l : List S39) : ByteArray × Int := if (decide (l.length ≤ 1000) && l.all vld) = true then (if ((allB 0 l).size : Int) > 65536 then (⟨#[]⟩, 3) else (allB 0 l, 0)) else (⟨#[]⟩, 1)
theorem ref_Encode (l : List S39) (hl : l.length ≤ 9223372036854775807) : Ev (fun k => ringworkref25_Encode.f k l) (encV l) := by
  unfold ringworkref25_Encode.f encV
  refine Ev.bind (ref_notes l hl) ?_
  by_cases hv : (decide (l.length ≤ 1000) && l.all vld) = true
  · simp only [if_pos hv]
    rw [Bool.and_eq_true, decide_eq_true_eq] at hv
    refine Ev.bind (ref_all 0 l (fun n hn => List.all_eq_true.1 hv.2 n hn) hv.1) ?_
    exact Ev.congr (Ev.val _) (fun k => by split <;> rfl)
  · simp only [if_neg hv]
    exact Ev.val _
theorem encV_size (l : List S39) (h : (encV l).2 = 0) : (encV l).1.size ≤ 65536 := by
  unfold encV at h ⊢
  split
  · rename_i hc
    rw [if_pos hc] at h
    split
    · rename_i hs; rw [if_pos hs] at h; exact absurd h (by decide)
    · rename_i hs; simp only; omega
  · exact Nat.zero_le _
end Go.Proofs.Yteblpjnkinghoaa.J
/- The reference's Decode is the program's; SameNotes of a list and itself; the sanity check. -/
set_option linter.unusedVariables false
set_option linter.unusedSimpArgs false
namespace Go.Proofs.Yteblpjnkinghoaa.J
open Go.RowKit Go.Proofs.YteblpjnkinghoaaW.PrintWords Go.Proofs.YteblpjnkinghoaaW.PrintLast Go.Proofs.YteblpjnkinghoaaW.PrintMore
theorem awake_true : ringworklaw25_awake.f = some true := by kernel_rfl
theorem wrap_up {k n : Nat} (h : k < n) (hn : n ≤ 9223372036854775807) : wrap64 ((k : Int) + 1) = ((k + 1 : Nat) : Int) := by unfold wrap64; omega
theorem same_notes_from (a : List S39) (hl : a.length ≤ 9223372036854775807) : ∀ (d i : Nat), d = a.length - i → i ≤ a.length → Ev (fun k => ringworkref25_SameNotes.l0 k a a (i : Int)) true
  | 0, i, hd, hi => by
    have : i = a.length := by omega
    subst this
    exact Ev.step (fun k => by rw [ringworkref25_SameNotes.l0, if_neg (by omega)]) (Ev.val _)
  | d + 1, i, hd, hi => by
    have hlt : i < a.length := by omega
    refine Ev.step (fun k => by rw [ringworkref25_SameNotes.l0, if_pos (by omega), if_pos (by omega), if_pos (by omega), if_neg (by simp)]) ?_
    rw [wrap_up hlt hl]
    exact same_notes_from a hl d (i + 1) (by omega) (by omega)
theorem same_notes (a : List S39) (hl : a.length ≤ 9223372036854775807) : Ev (fun k => ringworkref25_SameNotes.f k a a) true := by
  unfold ringworkref25_SameNotes.f
  simp only [if_true]
  exact same_notes_from a hl a.length 0 (by omega) (by omega)
theorem rest_extract (s : ByteArray) (i : Int) (h0 : 0 ≤ i) (h1 : i ≤ (s.size : Int)) : Rest s (s.extract i.toNat s.size) i where
  i0 := h0
  sz := by rw [ByteArray.size_extract]; omega
  bt_ := by
    intro j j0 j1
    rw [ByteArray.size_extract] at j1
    have := bt_extract s i.toNat s.size j.toNat (by omega) (Nat.le_refl _)
    rw [show ((j.toNat : Nat) : Int) = j by omega, show ((i.toNat + j.toNat : Nat) : Int) = i + j by omega] at this
    exact this
  ex := by
    intro a b a0 ab hb
    rw [ByteArray.size_extract] at hb
    rw [ByteArray.extract_extract, show i.toNat + a.toNat = (i + a).toNat by omega, show min (i.toNat + b.toNat) s.size = (i + b).toNat by omega]
theorem ref_decode (s : ByteArray) (hs : s.size ≤ 65536) : ∀ (m : Nat) (i sum : Int) (pre : List S39), 0 ≤ i → i ≤ (s.size : Int) → (s.size : Int) - i < m → (pre.length : Int) ≤ i →
    Ev (fun k => ringworkref25_Decode.l0 k s pre i sum) (pre ++ (decGo s m i sum).1, (decGo s m i sum).2.1, (decGo s m i sum).2.2.2.1, (decGo s m i sum).2.2.1, (decGo s m i sum).2.2.2.2) := by
  intro m
  induction m with
  | zero => intro i sum pre h0 h1 h2; omega
  | succ m ih =>
    intro i sum pre h0 h1 h2 hp
    by_cases hlt : i < (s.size : Int)
    · have hsame := look_peek (rest_extract s i h0 h1) sum
      have hsz : (s.extract i.toNat s.size).size ≤ 1000000 := by rw [ByteArray.size_extract]; omega
      have hlk : ringworkref25_look.f (s.extract i.toNat s.size) sum = some ((lookF (s.extract i.toNat s.size) sum).1.f0, (lookF (s.extract i.toNat s.size) sum).1.f1, (lookF (s.extract i.toNat s.size) sum).1.f2, (lookF (s.extract i.toNat s.size) sum).1.f3, (lookF (s.extract i.toNat s.size) sum).1.f4, (lookF (s.extract i.toNat s.size) sum).2.1, (lookF (s.extract i.toNat s.size) sum).2.2.1, (lookF (s.extract i.toNat s.size) sum).2.2.2) := by
        unfold ringworkref25_look.f; rw [if_pos hsz]
      refine Ev.step (fun k => by rw [ringworkref25_Decode.l0, if_pos hlt, if_pos h0, if_pos h1, hlk, Option.bind_some]) ?_
      rw [decGo, if_pos hlt]
      cases hpk : peek s i sum with
      | torn =>
        rw [hpk] at hsame
        obtain ⟨n, hn⟩ := hsame
        simp only [hn, if_true, List.append_nil]
        exact Ev.val _
      | wrong =>
        rw [hpk] at hsame
        obtain ⟨n, hn⟩ := hsame
        simp only [hn, if_true, List.append_nil, Bool.false_eq_true, if_false]
        exact Ev.val _
      | ok n sm fin =>
        rw [hpk] at hsame
        have hn : lookF (s.extract i.toNat s.size) sum = (n, fin - i, sm, false) := hsame
        have hf := peek_fin h0 hpk
        simp only [hn, Bool.false_eq_true, if_false]
        simp only [if_neg (show ¬ fin - i = 0 by omega), if_pos (show pre.length < 2513169434916 by omega), show wrap64 (i + (fin - i)) = fin by unfold wrap64; omega]
        have := ih fin sm (pre ++ [n]) (by omega) hf.2 (by omega) (by rw [List.length_append]; simp; omega)
        rw [List.append_assoc, List.singleton_append] at this
        exact this
    · refine Ev.step (fun k => by rw [ringworkref25_Decode.l0, if_neg hlt]) ?_
      rw [decGo, if_neg hlt]
      simp only [List.append_nil]
      exact Ev.val _
/-- How many notes there can be. -/
theorem decGo_len (s : ByteArray) : ∀ (m : Nat) (i sum : Int), 0 ≤ i → i ≤ (s.size : Int) → ((decGo s m i sum).1.length : Int) ≤ s.size - i := by
  intro m
  induction m with
  | zero => intro i sum h0 h1; simp [decGo]; omega
  | succ m ih =>
    intro i sum h0 h1
    rw [decGo]
    split
    · cases hpk : peek s i sum with
      | torn => simp; omega
      | wrong => simp; omega
      | ok n sm fin =>
        have hf := peek_fin h0 hpk
        have := ih fin sm (by omega) hf.2
        simp only [List.length_cons]
        push_cast
        omega
    · simp; omega
/-- The reference's Decode and the program's. -/
theorem dec_prog (s : ByteArray) (hs : s.size ≤ 65536) : journal_Decode.f s = some ((decGo s (s.size + 1) 0 0).1, (decGo s (s.size + 1) 0 0).2.1, (decGo s (s.size + 1) 0 0).2.2.2.1, (decGo s (s.size + 1) 0 0).2.2.2.2) := by
  unfold journal_Decode.f
  rw [if_neg (by omega)]
theorem dec_ref (s : ByteArray) (hs : s.size ≤ 65536) : Ev (fun k => ringworkref25_Decode.f k s) ((decGo s (s.size + 1) 0 0).1, (decGo s (s.size + 1) 0 0).2.1, (decGo s (s.size + 1) 0 0).2.2.2.1, (decGo s (s.size + 1) 0 0).2.2.1, (decGo s (s.size + 1) 0 0).2.2.2.2) := by
  unfold ringworkref25_Decode.f
  simp only [if_neg (show ¬ (s.size : Int) > 65536 by omega)]
  exact ref_decode s hs (s.size + 1) 0 0 [] (by omega) (by omega) (by omega) (by simp)
end Go.Proofs.Yteblpjnkinghoaa.J
/- What is read of a beginning of bytes is read of the bytes. -/
set_option linter.unusedVariables false
set_option linter.unusedSimpArgs false
namespace Go.Proofs.Yteblpjnkinghoaa.J
open Go.RowKit Go.Proofs.YteblpjnkinghoaaW.PrintWords Go.Proofs.YteblpjnkinghoaaW.PrintLast Go.Proofs.YteblpjnkinghoaaW.PrintMore
/-- p is a beginning of t. -/
structure Pre (p t : ByteArray) : Prop where
  sz : p.size ≤ t.size
  bt_ : ∀ j : Int, 0 ≤ j → j < (p.size : Int) → bt t j = bt p j
  ex : ∀ a b : Int, 0 ≤ a → a ≤ b → b ≤ (p.size : Int) → t.extract a.toNat b.toNat = p.extract a.toNat b.toNat
theorem Pre.of (t : ByteArray) (k : Nat) (hk : k ≤ t.size) : Pre (t.extract 0 k) t where
  sz := by rw [ByteArray.size_extract]; omega
  bt_ := by
    intro j j0 j1
    rw [ByteArray.size_extract] at j1
    have := bt_extract t 0 k j.toNat (by omega) hk
    rw [show ((j.toNat : Nat) : Int) = j by omega, show ((0 + j.toNat : Nat) : Int) = j by omega] at this
    exact this.symm
  ex := by
    intro a b a0 ab hb
    rw [ByteArray.size_extract] at hb
    rw [ByteArray.extract_extract, show 0 + a.toNat = a.toNat by omega, show min (0 + b.toNat) k = b.toNat by omega]
def Low (o o' : Out) : Prop := o = .torn ∨ o = o'
theorem low_if {cp ct : Prop} [Decidable cp] [Decidable ct] {A B : Out} (h : cp → ct) (hA : cp → Low A B) : Low (if cp then A else .torn) (if ct then B else .torn) := by
  by_cases c : cp
  · rw [if_pos c, if_pos (h c)]; exact hA c
  · rw [if_neg c]; exact Or.inl rfl
theorem low_same {c : Prop} [Decidable c] {A B : Out} (hA : c → Low A B) : Low (if c then A else .wrong) (if c then B else .wrong) := by
  by_cases h : c
  · rw [if_pos h, if_pos h]; exact hA h
  · rw [if_neg h, if_neg h]; exact Or.inr rfl
theorem low_tail {p t : ByteArray} (h : Pre p t) (e : ByteArray) (n : S39) (sum i : Int) (hi : 0 ≤ i) : ∀ m : Nat, m ≤ 8 → Low (tailOut p e n sum i m) (tailOut t e n sum i m) := by
  have hs := h.sz
  intro m
  induction m with
  | zero => intro _; exact Or.inr rfl
  | succ m ih =>
    intro hm
    simp only [tailOut]
    by_cases c : (p.size : Int) ≤ i + (8 - (m + 1 : Nat))
    · rw [if_pos c]; exact Or.inl rfl
    · rw [if_neg c, if_neg (show ¬ (t.size : Int) ≤ i + (8 - ((m + 1 : Nat) : Int)) by omega), h.bt_ _ (by omega) (by omega)]
      exact low_same (fun _ => ih (by omega))
theorem low_peek {p t : ByteArray} (h : Pre p t) (i last : Int) (hi : 0 ≤ i) : Low (peek p i last) (peek t i last) := by
  have hs := h.sz
  unfold peek
  refine low_if (fun _ => by omega) fun c0 => ?_
  rw [h.bt_ i (by omega) c0]
  by_cases hj : bt p i = 74
  rotate_left
  · rw [if_neg hj, if_neg hj]; exact Or.inr rfl
  rw [if_pos hj, if_pos hj]
  unfold peek1
  refine low_if (fun _ => by omega) fun c1 => ?_
  rw [h.bt_ (i + 1) (by omega) c1]
  refine low_same fun _ => ?_
  generalize bt p (i + 1) = kd
  unfold peek2
  refine low_if (fun _ => by omega) fun c2 => ?_
  rw [h.bt_ (i + 2) (by omega) c2]
  refine low_same fun _ => low_if (fun _ => by omega) fun c3 => ?_
  rw [h.bt_ (i + 3) (by omega) c3]
  generalize bt p (i + 2) * 256 + bt p (i + 3) = u
  unfold peek3
  refine low_same fun _ => low_if (fun _ => by omega) fun c4 => ?_
  rw [h.bt_ (i + 4) (by omega) c4]
  have hk := bt_range p (i + 4)
  generalize bt p (i + 4) = k at hk ⊢
  unfold peek4
  refine low_same fun _ => low_if (fun _ => by omega) fun c5 => ?_
  rw [h.bt_ (i + 5 + k) (by omega) c5]
  generalize bt p (i + 5 + k) = has
  unfold peek5
  refine low_same fun _ => ?_
  generalize (if kd = 6 then 40 else if has = 1 then 4000 else (0 : Int)) = most
  unfold peek6
  refine low_if (fun _ => by omega) fun c6 => ?_
  rw [h.bt_ (i + 6 + k) (by omega) c6]
  refine low_same fun _ => low_if (fun _ => by omega) fun c7 => ?_
  rw [h.bt_ (i + 7 + k) (by omega) c7]
  have ht : 0 ≤ bt p (i + 6 + k) * 256 + bt p (i + 7 + k) := by
    have h1 := bt_range p (i + 6 + k)
    have h2 := bt_range p (i + 7 + k)
    omega
  generalize bt p (i + 6 + k) * 256 + bt p (i + 7 + k) = tt at ht ⊢
  unfold peek7
  refine low_same fun _ => low_if (fun _ => by omega) fun c8 => ?_
  unfold peek8
  rw [h.ex i (i + 8 + k + tt) (by omega) (by omega) c8, h.ex (i + 5) (i + 5 + k) (by omega) (by omega) (by omega), h.ex (i + 8 + k) (i + 8 + k + tt) (by omega) (by omega) c8]
  exact low_tail h _ _ _ _ (by omega) 8 (Nat.le_refl _)
theorem dec_used (s : ByteArray) : ∀ (m : Nat) (i sum : Int), 0 ≤ i → i ≤ (decGo s m i sum).2.1 := by
  intro m
  induction m with
  | zero => intro i sum _; exact Int.le_refl _
  | succ m ih =>
    intro i sum h0
    rw [decGo]
    split
    · cases hpk : peek s i sum with
      | torn => exact Int.le_refl _
      | wrong => exact Int.le_refl _
      | ok n sm fin =>
        have hf := peek_fin h0 hpk
        have := ih fin sm (by omega)
        simp only
        omega
    · exact Int.le_refl _
theorem dec_pre {p t : ByteArray} (h : Pre p t) : ∀ (m : Nat) (i sum : Int) (m' : Nat), 0 ≤ i → i ≤ (p.size : Int) → (p.size : Int) - i < m → (t.size : Int) - i < m' →
    (decGo p m i sum).1 <+: (decGo t m' i sum).1 ∧ (decGo p m i sum).2.1 ≤ (decGo t m' i sum).2.1 ∧ ((decGo t m' i sum).2.2.2.2 = 0 → (decGo p m i sum).2.2.2.2 = 0) := by
  have hs := h.sz
  intro m
  induction m with
  | zero => intro i sum m' h0 h1 h2; omega
  | succ m ih =>
    intro i sum m' h0 h1 h2 h3
    have hu := dec_used t m' i sum h0
    rw [decGo]
    by_cases c : i < (p.size : Int)
    · rw [if_pos c]
      rcases low_peek h i sum h0 with hl | hl
      · rw [hl]
        exact ⟨List.nil_prefix, hu, fun _ => rfl⟩
      · obtain ⟨j, rfl⟩ : ∃ j, m' = j + 1 := ⟨m' - 1, by omega⟩
        rw [decGo, if_pos (show i < (t.size : Int) by omega)] at hu ⊢
        rw [← hl] at hu ⊢
        cases hpk : peek p i sum with
        | torn => exact ⟨List.nil_prefix, Int.le_refl _, fun _ => rfl⟩
        | wrong => exact ⟨List.nil_prefix, Int.le_refl _, fun h => h⟩
        | ok n sm fin =>
          have hf := peek_fin h0 hpk
          have := ih fin sm j (by omega) hf.2 (by omega) (by omega)
          exact ⟨(List.prefix_cons_inj n).2 this.1, this.2⟩
    · rw [if_neg c]
      exact ⟨List.nil_prefix, hu, fun _ => rfl⟩
end Go.Proofs.Yteblpjnkinghoaa.J
/- JournalDamage, the plain law. -/
set_option linter.unusedVariables false
set_option linter.unusedSimpArgs false
namespace Go.Proofs.Yteblpjnkinghoaa.J
open Go.RowKit Go.Proofs.YteblpjnkinghoaaW.PrintWords Go.Proofs.YteblpjnkinghoaaW.PrintLast Go.Proofs.YteblpjnkinghoaaW.PrintMore
theorem pre_append (a b : ByteArray) : Pre a (a ++ b) := by
  have h : (a ++ b).extract 0 a.size = a := by
    rw [ByteArray.extract_append]
    apply ByteArray.ext
    simp
  have := Pre.of (a ++ b) a.size (by rw [ByteArray.size_append]; omega)
  rw [h] at this
  exact this
/-- A place drawn out of a number. -/
theorem place (x : Int) (n : Nat) (h0 : 0 < n) (hn : n ≤ 100000) : ∃ q : Nat, q < n ∧ wrap64 (Int.tmod (IntKind.u64.wrap x) (IntKind.u64.wrap (n : Int))) = (q : Int) := by
  have hw : IntKind.u64.wrap (n : Int) = (n : Int) := by simp [IntKind.wrap, IntKind.bits, IntKind.signed]; omega
  have hx : 0 ≤ IntKind.u64.wrap x := by simp [IntKind.wrap, IntKind.bits, IntKind.signed]; omega
  rw [hw]
  generalize IntKind.u64.wrap x = y at hx
  have h1 : 0 ≤ Int.tmod y n := Int.tmod_nonneg _ hx
  have h2 : Int.tmod y n < n := Int.tmod_lt_of_pos _ (by omega)
  refine ⟨(Int.tmod y n).toNat, by omega, ?_⟩
  unfold wrap64
  omega
theorem wrap_size {n : Nat} (hn : n ≤ 100000) : IntKind.u64.wrap (n : Int) = (n : Int) := by simp [IntKind.wrap, IntKind.bits, IntKind.signed]; omega
theorem damage_law (l : List S39) (a1 a2 : Int) (hl : l.length ≤ 9223372036854775807) : Ev (fun k => ringworklaw25_JournalDamage.f k l a1 a2) true := by
  unfold ringworklaw25_JournalDamage.f
  obtain ⟨b, hb, _⟩ := notes_guard l hl
  refine Ev.bind hb ?_
  cases b with
  | false =>
    simp only [Bool.false_eq_true, if_false, awake_true, Option.bind_some]
    exact Ev.val _
  | true =>
    simp only [if_true]
    refine Ev.bind (ref_Encode l hl) ?_
    have hawake : ∀ s : ByteArray, Ev (fun k => ringworklaw25_JournalDamage.j0 k a1 a2 s true) true := fun s => Ev.step (fun k => by rw [ringworklaw25_JournalDamage.j0, if_pos rfl, awake_true, Option.bind_some]) (Ev.val _)
    by_cases he : (encV l).2 = 0
    · simp only [if_pos he]
      have hsz := encV_size l he
      generalize (encV l).1 = s at hsz
      by_cases h0 : s.toList = []
      · rw [show (s.toList == ([] : List UInt8)) = true by rw [h0]; rfl]
        exact hawake s
      · rw [show (s.toList == ([] : List UInt8)) = false from beq_eq_false_iff_ne.2 h0]
        have hs0 : 0 < s.size := by
          have : s.size ≠ 0 := fun e => h0 ((toList_nil_iff s).2 e)
          omega
        obtain ⟨q, hq, hqe⟩ := place a1 s.size hs0 (by omega)
        have hp : (s.extract 0 q).size = q := by rw [ByteArray.size_extract]; omega
        have hr : (s.extract (q + 1) s.size).size = s.size - (q + 1) := by rw [ByteArray.size_extract]; omega
        have hz : ¬ IntKind.u64.wrap (s.size : Int) = 0 := by rw [wrap_size (by omega)]; omega
        have hw1 : wrap64 ((q : Int) + 1) = ((q + 1 : Nat) : Int) := by unfold wrap64; omega
        refine Ev.step (fun k => by rw [ringworklaw25_JournalDamage.j0, if_neg (by decide), if_neg hz]) ?_
        simp only [hqe]
        generalize hm : strOfNums [Go.bits .xor .u8 (bt s q) ((IntKind.u64.wrap (1 + (Int.tmod (IntKind.u64.wrap a2) 255))) % 256)] = m
        have hms : m.size = 1 := by rw [← hm, strOfNums_size]; rfl
        simp only [if_pos (show (0 : Int) ≤ (q : Int) by omega), if_pos (show (q : Int) ≤ (s.size : Int) by omega), if_pos (show (q : Int) < (s.size : Int) by omega), Option.bind_some, Int.toNat_natCast, hw1, hm]
        simp only [if_pos (show (s.extract 0 q).size + m.size ≤ 9223372036854775807 by omega), if_pos (show (0 : Int) ≤ ((q + 1 : Nat) : Int) by omega), if_pos (show ((q + 1 : Nat) : Int) ≤ (s.size : Int) by omega), if_pos (show (s.extract 0 q ++ m).size + (s.extract (q + 1) s.size).size ≤ 9223372036854775807 by rw [ByteArray.size_append]; omega)]
        have hts : ((s.extract 0 q ++ m) ++ s.extract (q + 1) s.size).size = s.size := by rw [ByteArray.size_append, ByteArray.size_append, hp, hr, hms]; omega
        have hpre : Pre (s.extract 0 q) ((s.extract 0 q ++ m) ++ s.extract (q + 1) s.size) := by rw [ByteArray.append_assoc]; exact pre_append _ _
        generalize (s.extract 0 q ++ m) ++ s.extract (q + 1) s.size = t at hts hpre
        generalize hpp : s.extract 0 q = p at hp hpre
        simp only [dec_prog t (by omega), Option.bind_some]
        refine Ev.bind (dec_ref t (by omega)) ?_
        have hlen := decGo_len t (t.size + 1) 0 0 (by omega) (by omega)
        refine Ev.bind (same_notes _ (by omega)) ?_
        simp only [if_true, bne_self_eq_false, Bool.false_eq_true, if_false]
        have key := dec_pre hpre (p.size + 1) 0 0 (t.size + 1) (by omega) (by omega) (by omega) (by omega)
        have hlen2 := decGo_len p (p.size + 1) 0 0 (by omega) (by omega)
        have hfin : Ev (fun k => ringworklaw25_JournalDamage.j1 k s (q : Int) (decGo t (t.size + 1) 0 0).1 (decGo t (t.size + 1) 0 0).2.1 false) true := by
          refine Ev.step (fun k => by rw [ringworklaw25_JournalDamage.j1, if_neg (by decide), if_pos (by omega), if_pos (by omega), Int.toNat_natCast, hpp]) ?_
          refine Ev.bind (dec_ref p (by omega)) ?_
          have h1 := key.1.length_le
          simp only [if_pos (show ((decGo t (t.size + 1) 0 0).1.length : Int) ≥ ((decGo p (p.size + 1) 0 0).1.length : Int) by omega), if_pos (show (decGo t (t.size + 1) 0 0).2.1 ≥ (decGo p (p.size + 1) 0 0).2.1 from key.2.1), if_pos (show (0 : Int) ≤ ((decGo p (p.size + 1) 0 0).1.length : Int) by omega), if_pos (show ((decGo p (p.size + 1) 0 0).1.length : Int) ≤ ((decGo t (t.size + 1) 0 0).1.length : Int) by omega), Int.toNat_natCast]
          rw [← List.prefix_iff_eq_take.1 key.1]
          refine Ev.bind (same_notes _ (by omega)) ?_
          simp only [if_true, awake_true, Option.bind_some]
          exact Ev.val _
        exact hfin
    · simp only [if_neg he]
      exact hawake _
end Go.Proofs.Yteblpjnkinghoaa.J
/- A slice of images, or of notes, that reads as data: its cells. -/
namespace Go.Proofs.Yteblpjnkinghoaa.J
open Go.RowKit Go.Deep Go.ChangeShapes Go.WideShapes Go.Proofs.YteblpjnkinghoaaW.PrintWords
section
variable {H : Type} {enc : TypeId × Value → H} {w : World} {base : Nat} {spare : Nat → Bool} {held : Bool}
set_option maxRecDepth 100000 in
theorem reads39 {fuel : Nat} {A : Option Addr} {n c : Nat} {x : DataW H × List MemPlace} (h : DataW.trod enc Try.prog w base spare held fuel 23 [.slice A n c] = some x) : ∃ l : List S39, l.length = n ∧ n ≤ c ∧ Kd.C k39 w A n l := by
  rcases open_slice Try.underlying23 h with ⟨hc, _⟩ | ⟨a, len, cap, m, q, D, Pl, hc, hb, hl, hm, hmm, _, hx⟩
  · simp at hc
    obtain ⟨rfl, rfl, rfl⟩ := hc
    exact ⟨[], rfl, Nat.le_refl _, Kd.C_nil _ _⟩
  · simp at hc
    obtain ⟨rfl, rfl, rfl⟩ := hc
    have hlm : n ≤ m := by rw [hmm]; split <;> omega
    have each : ∀ i, i < n → ∃ y : S39, w.cell? (a.add (i * 5)) = some (.int .i64 y.f0) ∧ w.cell? (a.add (i * 5 + 1)) = some (.int .i64 y.f1) ∧ w.cell? (a.add (i * 5 + 2)) = some (.string y.f2) ∧ w.cell? (a.add (i * 5 + 3)) = some (.bool y.f3) ∧ w.cell? (a.add (i * 5 + 4)) = some (.string y.f4) := fun i hi => by
      obtain ⟨cs', h1, h2⟩ := hx i (by omega)
      have ce : Try.prog.cellsOf 39 = 5 := by kernel_rfl
      rw [ce] at h1
      obtain ⟨_, hlen, hcell⟩ := World.cells?_some h1
      obtain ⟨xs, k, _, _, _, hxl, hf⟩ := DataW.trod_struct Try.underlying39 h2
      match xs, hxl, cs', hlen with
      | [y0, y1, y2, y3, y4], _, [v0, v1, v2, v3, v4], _ =>
        have c9 : Try.prog.cellsOf 9 = 1 := by kernel_rfl
        have c4 : Try.prog.cellsOf 4 = 1 := by kernel_rfl
        have c3 : Try.prog.cellsOf 3 = 1 := by kernel_rfl
        have g0 := hf 0 _ rfl
        have g1 := hf 1 _ rfl
        have g2 := hf 2 _ rfl
        have g3 := hf 3 _ rfl
        have g4 := hf 4 _ rfl
        simp [c9, c4, c3] at g0 g1 g2 g3 g4
        obtain ⟨s0, e0, _⟩ := DataW.trod_int Try.underlying3 g0
        obtain ⟨s1, e1, _⟩ := DataW.trod_int Try.underlying3 g1
        obtain ⟨s2, e2, _⟩ := DataW.trod_string Try.underlying9 g2
        obtain ⟨s3, e3, _⟩ := DataW.trod_bool Try.underlying4 g3
        obtain ⟨s4, e4, _⟩ := DataW.trod_string Try.underlying9 g4
        cases e0; cases e1; cases e2; cases e3; cases e4
        have q0 := hcell 0 (by omega)
        have q1 := hcell 1 (by omega)
        have q2 := hcell 2 (by omega)
        have q3 := hcell 3 (by omega)
        have q4 := hcell 4 (by omega)
        rw [Deep.add_add] at q0 q1 q2 q3 q4
        exact ⟨⟨s0, s1, s2, s3, s4⟩, by simpa using q0, by simpa using q1, by simpa using q2, by simpa using q3, by simpa using q4⟩
    haveI : Inhabited S39 := ⟨⟨0, 0, ⟨#[]⟩, false, ⟨#[]⟩⟩⟩
    obtain ⟨f, hf⟩ := choose_lt each
    refine ⟨(List.range n).map f, by simp, hl, by simp, by simp only [maxLen] at hm; omega, fun _ => ⟨a, rfl, fun j p hj => ?_⟩⟩
    rw [List.getElem?_map] at hj
    obtain ⟨j', hj', rfl⟩ := Option.map_eq_some_iff.1 hj
    have hjn : j < n := by have := (List.getElem?_eq_some_iff.1 hj').1; simpa using this
    have : j' = j := by rw [List.getElem?_range hjn] at hj'; exact (Option.some.inj hj').symm
    subst this
    obtain ⟨q0, q1, q2, q3, q4⟩ := hf j' hjn
    refine ⟨_, rfl, k39_mk w (f j'), fun i u hu => ?_⟩
    have : i = 0 ∨ i = 1 ∨ i = 2 ∨ i = 3 ∨ i = 4 := by have := (List.getElem?_eq_some_iff.1 hu).1; simp at this; omega
    rcases this with rfl | rfl | rfl | rfl | rfl <;> cases hu
    · exact q0
    · exact q1
    · exact q2
    · exact q3
    · exact q4
end
end Go.Proofs.Yteblpjnkinghoaa.J
/- the law JournalDamage holds of every input: it returns true, and its arguments read behind the call as they read before. Conditions: none. -/
namespace Go.Proofs.Yteblpjnkinghoaa.journalDamage
open Go.ChangeShapes Go.WideShapes Go.ChangeAt Go.RowKit Go.Proofs.Yteblpjnkinghoaa.J
open Go.ChangeMaps (open_string shut_string)
theorem own : ownKnob Try.prog.godebug = none := by kernel_rfl
theorem laidOut : laidOutB Try.prog = true := by kernel_rfl
set_option maxRecDepth 100000 in
theorem lifted (os : Os) (started : os.Started) (H : Type) (enc : TypeId × Value → H) :
    ReturnsInHanded {} Try.checked os 7 .any (Rows.journalDamageSpec.pre6 enc Try.prog Try.f7 Rows.journalDamageRow.domain false) (Rows.journalDamageSpec.post enc Try.prog Try.f7 false true false false) := by
  refine returnsInHanded_of_change_sized (C := Try.checked) own started (by kernel_rfl) Try.func7
    (ChangeSpec.witness6 (enc := enc) (C := Try.checked) false ⟨#[], #[.slice none 0 0, .int .i64 0, .int .i64 0], []⟩ 8 (by kernel_rfl) (by kernel_rfl) (by kernel_rfl) (by kernel_rfl)) ?_
  intro W base args ds gs before hval0 hW hcnd hsz0 _
  have hsz : (DataW.weightsEach Try.prog (Try.f7.params.toList ++ Rows.journalDamageSpec.plain.varTypes Try.prog) (ds ++ gs)).all (· ≤ reachBytes) = true := hsz0
  have hval : ∀ (j : Nat) t v, Try.f7.params[j]? = some t → args[j]? = some v → Value.okWide Try.prog W .any base t v := hval0
  have hW' := hW
  obtain ⟨p, q, hA0, hV, rfl, hfz, hnd⟩ := hW
  have hA : DataW.TrodAll enc Try.prog W 0 (fun _ => true) true Try.f7.params.toList args.toList ds p := hA0
  rw [Try.params7] at hA hval hsz
  obtain ⟨v0, vs0, d0, ds0, p0, q0, hargs, rfl, rfl, h0, r0⟩ := trodAll_cons hA
  obtain ⟨v1, vs1, d1, ds1, p1, q1, rfl, rfl, rfl, h1, r1⟩ := trodAll_cons r0
  obtain ⟨v2, vs2, d2, ds2, p2, q2, rfl, rfl, rfl, h2, r2⟩ := trodAll_cons r1
  obtain ⟨rfl, rfl, rfl⟩ := trodAll_nil r2
  obtain rfl : args = #[v0, v1, v2] := by cases args; simp_all
  obtain ⟨rfl, rfl⟩ := trodVars_none hV
  obtain ⟨a0, len0, cap0, rfl⟩ := okWide_slice Try.underlying23 (hval 0 23 v0 rfl rfl)
  have k0 := h0
  have lt0 : ∀ x ∈ p0, x.block < W.heap.size := by obtain ⟨m, hm⟩ := k0; exact DataW.trod_lt m _ _ _ hm
  obtain ⟨l0, rfl, hc0, hr0⟩ : ∃ l, List.length l = len0 ∧ len0 ≤ cap0 ∧ Go.Proofs.YteblpjnkinghoaaW.PrintWords.Kd.C k39 W a0 len0 l := by obtain ⟨fuel, hf⟩ := h0; exact reads39 hf
  obtain ⟨a1, rfl, rfl, rfl, w1⟩ := open_int Try.underlying3 (hval 1 3 v1 rfl rfl) h1
  obtain ⟨a2, rfl, rfl, rfl, w2⟩ := open_int Try.underlying3 (hval 2 3 v2 rfl rfl) h2
  clear hA0 hval0 hsz0 hsz
  obtain ⟨k, hk⟩ := (damage_law l0 a1 a2 (Go.Proofs.YteblpjnkinghoaaW.PrintWords.Kd.C_max hr0)).ex
  refine (ringworklaw25_JournalDamage.calls k a0 cap0 l0 a1 a2 true W hr0 hc0 hk).mono fun e W' ⟨he, bel⟩ => ?_
  subst he
  exact ⟨_, rfl, _, _, _, [], _, [], hW', trodAll_mk1 (shut_bool Try.underlying4 _), (trodAll_cons_mk (Below.trod laidOut (by kernel_rfl) (of_decide_eq_true (by kernel_rfl)) k0 bel lt0) (trodAll_cons_mk (shut_int Try.underlying3 w1) (trodAll_cons_mk (shut_int Try.underlying3 w2) trodAll_mk0))), rfl, bel.frame _, fun h => by cases h⟩
theorem over : Rows.journalDamageRow.holds Try.pinned (OpenSpec.ofChange Rows.journalDamageSpec) :=
  OpenClaim.holds_of_wide 7 Try.f7 rfl rfl rfl rfl rfl rfl rfl ⟨rfl, rfl, rfl, rfl, rfl⟩ rfl rfl rfl rfl rfl (by kernel_rfl) Try.func7 (by kernel_rfl)
    (of_decide_eq_true (by kernel_rfl)) (by unfold Func.isWrapper; first | (rw [if_pos (by decide +kernel)]; kernel_rfl) | (rw [if_neg (by decide +kernel)]; exact ⟨rfl, rfl⟩))
    (fun os started H enc _ => lifted os started H enc)
theorem proved : Rows.JournalDamageSaid := over
#print axioms proved
end Go.Proofs.Yteblpjnkinghoaa.journalDamage
namespace Go.Proofs.Yteblpjnkinghoaa
/-- The row, under a short name, for the claim. -/
theorem journalDamage_holds : Rows.JournalDamageSaid := journalDamage.proved
end Go.Proofs.Yteblpjnkinghoaa
