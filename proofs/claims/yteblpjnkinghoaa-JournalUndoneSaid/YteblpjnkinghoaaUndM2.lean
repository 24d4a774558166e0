/- The law JournalUndone holds of every input: it returns true, and its arguments read behind the call as they read before. Conditions: none. -/
import Derived.Deep.SlicePairs
import Derived.Test.YteblpjnkinghoaaRows
import Derived.WalkKit
import Derived.ProofKit
import Derived.OpenShut
import Derived.ShutString
import Derived.ChangeOld
import Derived.Below
import Derived.SizedLaws
import Derived.Test.YteblpjnkinghoaaUndM0
import Derived.Test.YteblpjnkinghoaaUndM1
set_option linter.unusedVariables false
set_option linter.unusedSimpArgs false
namespace Go.Proofs.Yteblpjnkinghoaa.J
open Go.RowKit Go.Proofs.YteblpjnkinghoaaW.PrintWords Go.Proofs.YteblpjnkinghoaaW.PrintLast Go.Proofs.YteblpjnkinghoaaW.PrintMore
attribute [local go_sem] max2_int min2_int max_two min_two max_three min_three max_four min_four   -- for this text's walks alone
set_option linter.unusedVariables false
set_option linter.unusedSimpArgs false
/-! ### journal_State: function 14 -/
def journal_State.f (l0 : List (S41)) (l1 : List (S39)) : Option ((List (S41)) × Int) := (journal_ordered.f l0).bind fun t188 => (if t188 = true then ((journal_Redo.f l1 0).bind fun bt189 => (if bt189.2 = 0 then ((journal_Apply.f l0 bt189.1).bind fun bt193 => (some (bt193.1, bt193.2))) else (some (([] : List (S41)), bt189.2)))) else (some (([] : List (S41)), 1)))
set_option maxHeartbeats 8000000 in
set_option maxRecDepth 100000 in
theorem journal_State.calls (A0 : Option Addr) (c0 : Nat) (l0 : List (S41)) (A1 : Option Addr) (c1 : Nat) (l1 : List (S39)) (r1 : List (S41)) (r2 : Int) (w : World) (hr0 : Kd.C k41 w A0 l0.length l0) (hc0 : l0.length ≤ c0) (hr1 : Kd.C k39 w A1 l1.length l1) (hc1 : l1.length ≤ c1) (h : journal_State.f l0 l1 = some (r1, r2)) :
    Calls Try.prog 14 #[.slice A0 l0.length c0, .slice A1 l1.length c1] w fun e w' => ∃ v0_ : Value, e = .returned (.tuple #[v0_, .int .i64 r2]) ∧ Kd.R k41 41 w' w.heap.size (fun _ => True) v0_ r1 ∧ Below w.heap.size w w' := by
  have HR0 := Aside0.mk hr0
  have HC0 := Aside0.mk hc0
  clear hr0 hc0
  have HR1 := Aside0.mk hr1
  have HC1 := Aside0.mk hc1
  clear hr1 hc1
  have HB := Aside0.mk (Below.refl w.heap.size w)
  have H : ((journal_ordered.f l0).bind fun t188 => (if t188 = true then ((journal_Redo.f l1 0).bind fun bt189 => (if bt189.2 = 0 then ((journal_Apply.f l0 bt189.1).bind fun bt193 => (some (bt193.1, bt193.2))) else (some (([] : List (S41)), bt189.2)))) else (some (([] : List (S41)), 1)))) = some (r1, r2) := h
  clear h
  replace H := Option.bind_eq_some_iff.mp H
  obtain ⟨t188, A30, H⟩ := H
  replace H : (if t188 = true then ((journal_Redo.f l1 0).bind fun bt189 => (if bt189.2 = 0 then ((journal_Apply.f l0 bt189.1).bind fun bt193 => (some (bt193.1, bt193.2))) else (some (([] : List (S41)), bt189.2)))) else (some (([] : List (S41)), 1))) = some (r1, r2) := H
  have A3 := Aside0.mk A30
  clear A30
  by_cases c4 : t188 = true
  · subst c4
    have H1 : ((journal_Redo.f l1 0).bind fun bt189 => (if bt189.2 = 0 then ((journal_Apply.f l0 bt189.1).bind fun bt193 => (some (bt193.1, bt193.2))) else (some (([] : List (S41)), bt189.2)))) = some (r1, r2) := by rw [if_pos rfl] at H; exact H
    clear H
    have H := H1
    clear H1
    replace H := Option.bind_eq_some_iff.mp H
    obtain ⟨⟨t189, t190⟩, A50, H⟩ := H
    replace H : (if t190 = 0 then ((journal_Apply.f l0 t189).bind fun bt193 => (some (bt193.1, bt193.2))) else (some (([] : List (S41)), t190))) = some (r1, r2) := H
    have A5 := Aside0.mk A50
    clear A50
    by_cases c6 : t190 = 0
    · rw [if_pos c6] at H
      have c6b0 : (t190 == 0) = true := beq_iff_eq.mpr c6
      have c6b1 : (t190 != 0) = false := bne_eq_false_iff_eq.mpr c6
      clear c6
      replace H := Option.bind_eq_some_iff.mp H
      obtain ⟨⟨t193, t194⟩, A70, H⟩ := H
      replace H : (some (t193, t194)) = some (r1, r2) := H
      have A7 := Aside0.mk A70
      clear A70
      simp only [Option.some.injEq, Prod.mk.injEq] at H
      obtain ⟨rfl, rfl⟩ := H
      go_enter Try.func14, Try.ntmps14
      go_wp2_with (first | ((with_reducible refine gate_callee (f := 36) rfl ?_); refine goesL_ (some 9) rfl rfl Try.func36 (by kernel_rfl) rfl #[.slice A0 l0.length c0] rfl (by (try simp only [List.map_toArray, List.map_cons, List.map_nil]); first | done | rfl | (simp only [List.length_drop, List.length_take]; rfl)) ?_; (with_reducible refine (journal_ordered.calls _ _ l0 true _ ?side1 ?side2 A3.out).mono ?_); (case side1 => repeat (first | exact HR0.out | (with_reducible refine Kd.C_alloc ?_ _) | (with_reducible refine Kd.C_drewN ?_ _) | (with_reducible refine Kd.C_drew ?_))); (case side2 => exact HC0.out); rintro e w8 ⟨rfl, hb⟩; refine ⟨_, rfl, ?_⟩; have n0_ := Aside0.mk (below_step (by repeat (first | (with_reducible first | exact HB.out | apply below_alloc | apply pw_below_drewN | apply below_drew1) | exact HB.out)) hb); clear HB; have HB := n0_; clear n0_; (try clear hb); (try clear hb2); (try clear hk); (try clear hi)) | ((with_reducible refine gate_callee (f := 18) rfl ?_); refine goesL_ (some 13) rfl rfl Try.func18 (by kernel_rfl) rfl #[.slice A1 l1.length c1, .int .i64 0] rfl (by (try simp only [List.map_toArray, List.map_cons, List.map_nil]); first | done | rfl | (simp only [List.length_drop, List.length_take]; rfl)) ?_; (with_reducible refine (journal_Redo.calls _ _ l1 0 t189 t190 _ ?side1 ?side2 A5.out).mono ?_); (case side1 => repeat (first | exact (Kd.C_below HR1.out HB.out) | (with_reducible refine Kd.C_alloc ?_ _) | (with_reducible refine Kd.C_drewN ?_ _) | (with_reducible refine Kd.C_drew ?_))); (case side2 => exact HC1.out); rintro e w9 ⟨v191, rfl, ho0, hb⟩; refine ⟨_, rfl, ?_⟩; have n0_ := Aside0.mk (Kd.R_lower ho0 (below_size (by repeat (first | (with_reducible first | exact HB.out | apply below_alloc | apply pw_below_drewN | apply below_drew1) | exact HB.out)))); have n1_ := Aside0.mk (below_step (by repeat (first | (with_reducible first | exact HB.out | apply below_alloc | apply pw_below_drewN | apply below_drew1) | exact HB.out)) hb); clear HB; have HO192 := n0_; have HB := n1_; clear n0_ n1_; (try clear hb); (try clear hb2); (try clear hk); (try clear hi); (try clear ho0); obtain ⟨Ao10, co10, eo10⟩ := Kd.R_slice HO192.out; subst eo10) | ((with_reducible refine gate_callee (f := 20) rfl ?_); refine goesL_ (some 21) rfl rfl Try.func20 (by kernel_rfl) rfl #[.slice A0 l0.length c0, .slice Ao10 t189.length co10] rfl (by (try simp only [List.map_toArray, List.map_cons, List.map_nil]); first | done | rfl | (simp only [List.length_drop, List.length_take]; rfl)) ?_; (with_reducible refine (journal_Apply.calls _ _ l0 _ _ t189 t193 t194 _ ?side1 ?side2 ?side3 ?side4 A7.out).mono ?_); (case side1 => repeat (first | exact (Kd.C_below HR0.out HB.out) | (with_reducible refine Kd.C_alloc ?_ _) | (with_reducible refine Kd.C_drewN ?_ _) | (with_reducible refine Kd.C_drew ?_))); (case side2 => exact HC0.out); (case side3 => repeat (first | exact (Kd.R_reads' HO192.out).2.2 | (with_reducible refine Kd.C_alloc ?_ _) | (with_reducible refine Kd.C_drewN ?_ _) | (with_reducible refine Kd.C_drew ?_))); (case side4 => exact (Kd.R_reads' HO192.out).2.1); rintro e w11 ⟨v195, rfl, ho0, hb⟩; refine ⟨_, rfl, ?_⟩; have n0_ := Aside0.mk (Kd.R_elder' (by (with_reducible repeat (first | apply Kd.R_alloc | apply Kd.R_drewN | apply Kd.R_drew)); exact HO192.out) (Kd.R_base ho0) hb); have n1_ := Aside0.mk (Kd.R_lower (Kd.R_new' ho0 (Kd.R_lt (by (with_reducible repeat (first | apply Kd.R_alloc | apply Kd.R_drewN | apply Kd.R_drew)); exact HO192.out))) (below_size (by repeat (first | (with_reducible first | exact HB.out | apply below_alloc | apply pw_below_drewN | apply below_drew1) | exact HB.out)))); have n2_ := Aside0.mk (below_step (by repeat (first | (with_reducible first | exact HB.out | apply below_alloc | apply pw_below_drewN | apply below_drew1) | exact HB.out)) hb); clear HO192; clear HB; have HO192 := n0_; have HO196 := n1_; have HB := n2_; clear n0_ n1_ n2_; (try clear hb); (try clear hb2); (try clear hk); (try clear hi); (try clear ho0)))
      go_ret2
      exact ⟨_, by first | rfl | (simp [errW_none, errW_some] <;> rfl) | (simp [*, errW_none, errW_some] <;> rfl), by (with_reducible repeat (first | apply Kd.R_alloc | apply Kd.R_drewN | apply Kd.R_drew)); exact Kd.R_mono HO196.out (fun _ hk => trivial), by repeat (first | (with_reducible first | exact HB.out | apply below_alloc | apply pw_below_drewN | apply below_drew1) | exact HB.out)⟩
    · rw [if_neg c6] at H
      have c6b0 : (t190 == 0) = false := beq_eq_false_iff_ne.mpr c6
      have c6b1 : (t190 != 0) = true := bne_iff_ne.mpr c6
      simp only [Option.some.injEq, Prod.mk.injEq] at H
      obtain ⟨rfl, rfl⟩ := H
      go_enter Try.func14, Try.ntmps14
      go_wp2_with (first | ((with_reducible refine gate_callee (f := 36) rfl ?_); refine goesL_ (some 9) rfl rfl Try.func36 (by kernel_rfl) rfl #[.slice A0 l0.length c0] rfl (by (try simp only [List.map_toArray, List.map_cons, List.map_nil]); first | done | rfl | (simp only [List.length_drop, List.length_take]; rfl)) ?_; (with_reducible refine (journal_ordered.calls _ _ l0 true _ ?side1 ?side2 A3.out).mono ?_); (case side1 => repeat (first | exact HR0.out | (with_reducible refine Kd.C_alloc ?_ _) | (with_reducible refine Kd.C_drewN ?_ _) | (with_reducible refine Kd.C_drew ?_))); (case side2 => exact HC0.out); rintro e w12 ⟨rfl, hb⟩; refine ⟨_, rfl, ?_⟩; have n0_ := Aside0.mk (below_step (by repeat (first | (with_reducible first | exact HB.out | apply below_alloc | apply pw_below_drewN | apply below_drew1) | exact HB.out)) hb); clear HB; have HB := n0_; clear n0_; (try clear hb); (try clear hb2); (try clear hk); (try clear hi)) | ((with_reducible refine gate_callee (f := 18) rfl ?_); refine goesL_ (some 13) rfl rfl Try.func18 (by kernel_rfl) rfl #[.slice A1 l1.length c1, .int .i64 0] rfl (by (try simp only [List.map_toArray, List.map_cons, List.map_nil]); first | done | rfl | (simp only [List.length_drop, List.length_take]; rfl)) ?_; (with_reducible refine (journal_Redo.calls _ _ l1 0 t189 t190 _ ?side1 ?side2 A5.out).mono ?_); (case side1 => repeat (first | exact (Kd.C_below HR1.out HB.out) | (with_reducible refine Kd.C_alloc ?_ _) | (with_reducible refine Kd.C_drewN ?_ _) | (with_reducible refine Kd.C_drew ?_))); (case side2 => exact HC1.out); rintro e w13 ⟨v191, rfl, ho0, hb⟩; refine ⟨_, rfl, ?_⟩; have n0_ := Aside0.mk (Kd.R_lower ho0 (below_size (by repeat (first | (with_reducible first | exact HB.out | apply below_alloc | apply pw_below_drewN | apply below_drew1) | exact HB.out)))); have n1_ := Aside0.mk (below_step (by repeat (first | (with_reducible first | exact HB.out | apply below_alloc | apply pw_below_drewN | apply below_drew1) | exact HB.out)) hb); clear HB; have HO192 := n0_; have HB := n1_; clear n0_ n1_; (try clear hb); (try clear hb2); (try clear hk); (try clear hi); (try clear ho0)))
      go_ret2
      exact ⟨_, by first | rfl | (simp [errW_none, errW_some] <;> rfl) | (simp [*, errW_none, errW_some] <;> rfl), by first | exact Kd.R_nil _ _ _ _ _ | exact Kd.N_nil _ _ _ _ _ | exact Kd.V_nil _ _ _ _ _ | exact Kd.Q_nil _ _ _ _ _ | exact Kd.S_nil _ _ _ _ _, by repeat (first | (with_reducible first | exact HB.out | apply below_alloc | apply pw_below_drewN | apply below_drew1) | exact HB.out)⟩
  · replace c4 := Bool.eq_false_iff.mpr c4
    subst c4
    have H1 : (some (([] : List (S41)), 1)) = some (r1, r2) := by rw [if_neg (show ¬ (false = true) by decide)] at H; exact H
    clear H
    have H := H1
    clear H1
    simp only [Option.some.injEq, Prod.mk.injEq] at H
    obtain ⟨rfl, rfl⟩ := H
    go_enter Try.func14, Try.ntmps14
    go_wp2_with (first | ((with_reducible refine gate_callee (f := 36) rfl ?_); refine goesL_ (some 9) rfl rfl Try.func36 (by kernel_rfl) rfl #[.slice A0 l0.length c0] rfl (by (try simp only [List.map_toArray, List.map_cons, List.map_nil]); first | done | rfl | (simp only [List.length_drop, List.length_take]; rfl)) ?_; (with_reducible refine (journal_ordered.calls _ _ l0 false _ ?side1 ?side2 A3.out).mono ?_); (case side1 => repeat (first | exact HR0.out | (with_reducible refine Kd.C_alloc ?_ _) | (with_reducible refine Kd.C_drewN ?_ _) | (with_reducible refine Kd.C_drew ?_))); (case side2 => exact HC0.out); rintro e w14 ⟨rfl, hb⟩; refine ⟨_, rfl, ?_⟩; have n0_ := Aside0.mk (below_step (by repeat (first | (with_reducible first | exact HB.out | apply below_alloc | apply pw_below_drewN | apply below_drew1) | exact HB.out)) hb); clear HB; have HB := n0_; clear n0_; (try clear hb); (try clear hb2); (try clear hk); (try clear hi)))
    go_ret2
    exact ⟨_, by first | rfl | (simp [errW_none, errW_some] <;> rfl) | (simp [*, errW_none, errW_some] <;> rfl), by first | exact Kd.R_nil _ _ _ _ _ | exact Kd.N_nil _ _ _ _ _ | exact Kd.V_nil _ _ _ _ _ | exact Kd.Q_nil _ _ _ _ _ | exact Kd.S_nil _ _ _ _ _, by repeat (first | (with_reducible first | exact HB.out | apply below_alloc | apply pw_below_drewN | apply below_drew1) | exact HB.out)⟩

/-! ### ringworklaw25_awake: function 12 -/
def ringworklaw25_awake.f  : Option (Bool) := (journal_State.f ([] : List (S41)) (([(⟨1, 1, (⟨#[]⟩ : ByteArray), false, (⟨#[]⟩ : ByteArray)⟩ : S39), (⟨2, 1, (⟨#[120]⟩ : ByteArray), false, (⟨#[]⟩ : ByteArray)⟩ : S39), (⟨3, 1, (⟨#[120]⟩ : ByteArray), true, (⟨#[97]⟩ : ByteArray)⟩ : S39), (⟨5, 1, (⟨#[]⟩ : ByteArray), false, (⟨#[]⟩ : ByteArray)⟩ : S39)] : List (S39)))).bind fun bt200 => (if bt200.2 = 0 then (if (bt200.1.length : Int) = 1 then (if 0 < (bt200.1.length : Int) then (if ((rd_T41 bt200.1 0).f0).toList = ([120] : List UInt8) then (some (((rd_T41 bt200.1 0).f2).toList == ([97] : List UInt8))) else (some false)) else (none)) else (some false)) else (some false))
set_option maxHeartbeats 8000000 in
set_option maxRecDepth 100000 in
theorem ringworklaw25_awake.calls  (r : Bool) (w : World) (h : ringworklaw25_awake.f  = some r) :
    Calls Try.prog 12 #[] w fun e w' => e = .returned (.bool r) ∧ Below w.heap.size w w' := by
  have hu39 := Try.underlying39
  have HB := Aside0.mk (Below.refl w.heap.size w)
  have H : ((journal_State.f ([] : List (S41)) (([(⟨1, 1, (⟨#[]⟩ : ByteArray), false, (⟨#[]⟩ : ByteArray)⟩ : S39), (⟨2, 1, (⟨#[120]⟩ : ByteArray), false, (⟨#[]⟩ : ByteArray)⟩ : S39), (⟨3, 1, (⟨#[120]⟩ : ByteArray), true, (⟨#[97]⟩ : ByteArray)⟩ : S39), (⟨5, 1, (⟨#[]⟩ : ByteArray), false, (⟨#[]⟩ : ByteArray)⟩ : S39)] : List (S39)))).bind fun bt200 => (if bt200.2 = 0 then (if (bt200.1.length : Int) = 1 then (if 0 < (bt200.1.length : Int) then (if ((rd_T41 bt200.1 0).f0).toList = ([120] : List UInt8) then (some (((rd_T41 bt200.1 0).f2).toList == ([97] : List UInt8))) else (some false)) else (none)) else (some false)) else (some false))) = some r := h
  clear h
  obtain ⟨y197, hy197⟩ : ∃ y_ : List (S39), y_ = (([(⟨1, 1, (⟨#[]⟩ : ByteArray), false, (⟨#[]⟩ : ByteArray)⟩ : S39), (⟨2, 1, (⟨#[120]⟩ : ByteArray), false, (⟨#[]⟩ : ByteArray)⟩ : S39), (⟨3, 1, (⟨#[120]⟩ : ByteArray), true, (⟨#[97]⟩ : ByteArray)⟩ : S39), (⟨5, 1, (⟨#[]⟩ : ByteArray), false, (⟨#[]⟩ : ByteArray)⟩ : S39)] : List (S39))) := ⟨_, rfl⟩
  replace H : ((journal_State.f ([] : List (S41)) y197).bind fun bt200 => (if bt200.2 = 0 then (if (bt200.1.length : Int) = 1 then (if 0 < (bt200.1.length : Int) then (if ((rd_T41 bt200.1 0).f0).toList = ([120] : List UInt8) then (some (((rd_T41 bt200.1 0).f2).toList == ([97] : List UInt8))) else (some false)) else (none)) else (some false)) else (some false))) = some r := by first | (rw [hy197]; with_reducible exact H) | (have H2_ := (Option.bind_some _ _).symm.trans H; rw [hy197]; with_reducible exact H2_) | (have H2_ := (Option.bind_some _ _).symm.trans H; with_reducible exact H2_) | with_reducible exact H | (rw [hy197]; exact H) | exact H
  have Ny197 := Aside0.mk hy197
  clear hy197
  replace H := Option.bind_eq_some_iff.mp H
  obtain ⟨⟨t200, t201⟩, A10, H⟩ := H
  replace H : (if t201 = 0 then (if (t200.length : Int) = 1 then (if 0 < (t200.length : Int) then (if ((rd_T41 t200 0).f0).toList = ([120] : List UInt8) then (some (((rd_T41 t200 0).f2).toList == ([97] : List UInt8))) else (some false)) else (none)) else (some false)) else (some false)) = some r := H
  have A1 := Aside0.mk A10
  clear A10
  by_cases c2 : t201 = 0
  · rw [if_pos c2] at H
    have c2b0 : (t201 == 0) = true := beq_iff_eq.mpr c2
    have c2b1 : (t201 != 0) = false := bne_eq_false_iff_eq.mpr c2
    clear c2
    by_cases c3 : (t200.length : Int) = 1
    · rw [if_pos c3] at H
      have c3b0 : ((t200.length : Int) == 1) = true := beq_iff_eq.mpr c3
      have c3b1 : ((t200.length : Int) != 1) = false := bne_eq_false_iff_eq.mpr c3
      clear c3
      by_cases c4 : 0 < (t200.length : Int)
      · rw [if_pos c4] at H
        have c4b0 : decide (0 < (t200.length : Int)) = true := decide_eq_true c4
        have c4b1 : decide (0 < t200.length) = true := decide_eq_true (by omega)
        clear c4
        by_cases c5 : ((rd_T41 t200 0).f0).toList = ([120] : List UInt8)
        · rw [if_pos c5] at H
          have c5b0 : (((rd_T41 t200 0).f0).toList == ([120] : List UInt8)) = true := beq_iff_eq.mpr c5
          have c5b1 : (((rd_T41 t200 0).f0).toList != ([120] : List UInt8)) = false := bne_eq_false_iff_eq.mpr c5
          clear c5
          obtain rfl := Option.some.inj H
          go_enter Try.func12, Try.ntmps12
          go_wp2_with (first | ((with_reducible refine gate_dst (N := 8) rfl ?_); (try (refine gate_guard (by rfl) ?_; dsimp only)); refine Kd.R_lit k39 _ 39 ?hg (N := 8) ?hd (xs := ([(⟨1, 1, (⟨#[]⟩ : ByteArray), false, (⟨#[]⟩ : ByteArray)⟩ : S39), (⟨2, 1, (⟨#[120]⟩ : ByteArray), false, (⟨#[]⟩ : ByteArray)⟩ : S39), (⟨3, 1, (⟨#[120]⟩ : ByteArray), true, (⟨#[97]⟩ : ByteArray)⟩ : S39), (⟨5, 1, (⟨#[]⟩ : ByteArray), false, (⟨#[]⟩ : ByteArray)⟩ : S39)] : List (S39))) (inner := [.int .i64 1, .int .i64 1, .string (⟨#[]⟩ : ByteArray), .bool false, .string (⟨#[]⟩ : ByteArray), .int .i64 2, .int .i64 1, .string (⟨#[120]⟩ : ByteArray), .bool false, .string (⟨#[]⟩ : ByteArray), .int .i64 3, .int .i64 1, .string (⟨#[120]⟩ : ByteArray), .bool true, .string (⟨#[97]⟩ : ByteArray), .int .i64 5, .int .i64 1, .string (⟨#[]⟩ : ByteArray), .bool false, .string (⟨#[]⟩ : ByteArray)]) (ok := fun _ => True) (okp := fun _ => True) ?hr ?hp (fun _ hk => hk) trivial (Below.refl _ _) (Nat.le_refl _) (by simp) ?_; (case hd => rfl); (case hg => rfl); (case hr => first | (go_simp; done) | (go_simp; rfl)); (case hp => exact (Reps.c5 (show Kd.M k39 _ _ _ (⟨1, 1, (⟨#[]⟩ : ByteArray), false, (⟨#[]⟩ : ByteArray)⟩ : S39) [.int .i64 1, .int .i64 1, .string (⟨#[]⟩ : ByteArray), .bool false, .string (⟨#[]⟩ : ByteArray)] from (k39_mkM _ _ _ (⟨1, 1, (⟨#[]⟩ : ByteArray), false, (⟨#[]⟩ : ByteArray)⟩ : S39) )) (Reps.c5 (show Kd.M k39 _ _ _ (⟨2, 1, (⟨#[120]⟩ : ByteArray), false, (⟨#[]⟩ : ByteArray)⟩ : S39) [.int .i64 2, .int .i64 1, .string (⟨#[120]⟩ : ByteArray), .bool false, .string (⟨#[]⟩ : ByteArray)] from (k39_mkM _ _ _ (⟨2, 1, (⟨#[120]⟩ : ByteArray), false, (⟨#[]⟩ : ByteArray)⟩ : S39) )) (Reps.c5 (show Kd.M k39 _ _ _ (⟨3, 1, (⟨#[120]⟩ : ByteArray), true, (⟨#[97]⟩ : ByteArray)⟩ : S39) [.int .i64 3, .int .i64 1, .string (⟨#[120]⟩ : ByteArray), .bool true, .string (⟨#[97]⟩ : ByteArray)] from (k39_mkM _ _ _ (⟨3, 1, (⟨#[120]⟩ : ByteArray), true, (⟨#[97]⟩ : ByteArray)⟩ : S39) )) (Reps.c5 (show Kd.M k39 _ _ _ (⟨5, 1, (⟨#[]⟩ : ByteArray), false, (⟨#[]⟩ : ByteArray)⟩ : S39) [.int .i64 5, .int .i64 1, .string (⟨#[]⟩ : ByteArray), .bool false, .string (⟨#[]⟩ : ByteArray)] from (k39_mkM _ _ _ (⟨5, 1, (⟨#[]⟩ : ByteArray), false, (⟨#[]⟩ : ByteArray)⟩ : S39) )) (Reps.none _ _)))))); intro v198 w6 ho7 hb hg_ hnew_; clear hg_ hnew_; (first | rw [← Ny197.out] at ho7 | (simp only [Int.reduceToNat] at ho7; rw [← Ny197.out] at ho7)); have n0_ := Aside0.mk (Kd.R_lower ho7 (below_size (by repeat (first | (with_reducible first | exact HB.out | apply below_alloc | apply pw_below_drewN | apply below_drew1) | exact HB.out)))); have n1_ := Aside0.mk (below_step (by repeat (first | (with_reducible first | exact HB.out | apply below_alloc | apply pw_below_drewN | apply below_drew1) | exact HB.out)) hb); clear HB; have HO199 := n0_; have HB := n1_; clear n0_ n1_; clear hb ho7; obtain ⟨Ao8, co8, eo8⟩ := Kd.R_slice HO199.out; subst eo8) | ((with_reducible refine gate_callee (f := 14) rfl ?_); refine goesL_ (some 9) rfl rfl Try.func14 (by kernel_rfl) rfl #[.slice none 0 0, .slice Ao8 y197.length co8] rfl (by (try simp only [List.map_toArray, List.map_cons, List.map_nil]); first | done | rfl | (simp only [List.length_drop, List.length_take]; rfl)) ?_; (refine (journal_State.calls _ _ ([] : List (S41)) _ _ y197 t200 t201 _ ?side1 ?side2 ?side3 ?side4 A1.out).mono ?_); (case side1 => exact Kd.C_nil _ _); (case side2 => exact Nat.le_refl _); (case side3 => repeat (first | exact (Kd.R_reads' HO199.out).2.2 | (with_reducible refine Kd.C_alloc ?_ _) | (with_reducible refine Kd.C_drewN ?_ _) | (with_reducible refine Kd.C_drew ?_))); (case side4 => exact (Kd.R_reads' HO199.out).2.1); rintro e w9 ⟨v202, rfl, ho0, hb⟩; refine ⟨_, rfl, ?_⟩; have n0_ := Aside0.mk (Kd.R_below (by (with_reducible repeat (first | apply Kd.R_alloc | apply Kd.R_drewN | apply Kd.R_drew)); exact HO199.out) hb); have n1_ := Aside0.mk (Kd.R_lower ho0 (below_size (by repeat (first | (with_reducible first | exact HB.out | apply below_alloc | apply pw_below_drewN | apply below_drew1) | exact HB.out)))); have n2_ := Aside0.mk (below_step (by repeat (first | (with_reducible first | exact HB.out | apply below_alloc | apply pw_below_drewN | apply below_drew1) | exact HB.out)) hb); clear HO199; clear HB; have HO199 := n0_; have HO203 := n1_; have HB := n2_; clear n0_ n1_ n2_; (try clear hb); (try clear hb2); (try clear hk); (try clear hi); (try clear ho0); obtain ⟨Ao10, co10, eo10⟩ := Kd.R_slice HO203.out; subst eo10; have p204 : 0 ≤ (0 : Int) := (by omega); have q204 : 0 < (t200.length : Int) := of_decide_eq_true (by first | (with_reducible assumption) | assumption); obtain ⟨ad204, e204, hx204_0, hx204_1, hx204_2⟩ := at_T41 (Kd.R_reads' HO203.out).2.2 0 p204 q204; cases e204; have qi204 : (0 < t200.length) = True := eq_true (by omega); (try rw [show ((0 : Int)).toNat = 0 from rfl] at hx204_0); (try rw [show 0 * 3 = 0 from rfl] at hx204_0); (try rw [Addr.add_zero'] at hx204_0); (try rw [show ((0 : Int)).toNat = 0 from rfl] at hx204_1); (try rw [show 0 * 3 = 0 from rfl] at hx204_1); (try rw [Addr.add_zero'] at hx204_1); (try rw [show ((0 : Int)).toNat = 0 from rfl] at hx204_2); (try rw [show 0 * 3 = 0 from rfl] at hx204_2); (try rw [Addr.add_zero'] at hx204_2); replace p204 := eq_true p204; replace q204 := eq_true q204; have p205 : 0 ≤ (0 : Int) := (by omega); have q205 : 0 < (t200.length : Int) := of_decide_eq_true (by first | (with_reducible assumption) | assumption); obtain ⟨ad205, e205, hx205_0, hx205_1, hx205_2⟩ := at_T41 (Kd.R_reads' HO203.out).2.2 0 p205 q205; obtain rfl : ad204 = ad205 := (by injection e205); have qi205 : (0 < t200.length) = True := eq_true (by omega); (try rw [show ((0 : Int)).toNat = 0 from rfl] at hx205_0); (try rw [show 0 * 3 = 0 from rfl] at hx205_0); (try rw [Addr.add_zero'] at hx205_0); (try rw [show ((0 : Int)).toNat = 0 from rfl] at hx205_1); (try rw [show 0 * 3 = 0 from rfl] at hx205_1); (try rw [Addr.add_zero'] at hx205_1); (try rw [show ((0 : Int)).toNat = 0 from rfl] at hx205_2); (try rw [show 0 * 3 = 0 from rfl] at hx205_2); (try rw [Addr.add_zero'] at hx205_2); replace p205 := eq_true p205; replace q205 := eq_true q205))
          go_ret
          exact ⟨by first | rfl | (simp [errW_none, errW_some] <;> rfl) | (simp [*, errW_none, errW_some] <;> rfl), by repeat (first | (with_reducible first | exact HB.out | apply below_alloc | apply pw_below_drewN | apply below_drew1) | exact HB.out)⟩
        · rw [if_neg c5] at H
          have c5b0 : (((rd_T41 t200 0).f0).toList == ([120] : List UInt8)) = false := beq_eq_false_iff_ne.mpr c5
          have c5b1 : (((rd_T41 t200 0).f0).toList != ([120] : List UInt8)) = true := bne_iff_ne.mpr c5
          obtain rfl := Option.some.inj H
          go_enter Try.func12, Try.ntmps12
          go_wp2_with (first | ((with_reducible refine gate_dst (N := 8) rfl ?_); (try (refine gate_guard (by rfl) ?_; dsimp only)); refine Kd.R_lit k39 _ 39 ?hg (N := 8) ?hd (xs := ([(⟨1, 1, (⟨#[]⟩ : ByteArray), false, (⟨#[]⟩ : ByteArray)⟩ : S39), (⟨2, 1, (⟨#[120]⟩ : ByteArray), false, (⟨#[]⟩ : ByteArray)⟩ : S39), (⟨3, 1, (⟨#[120]⟩ : ByteArray), true, (⟨#[97]⟩ : ByteArray)⟩ : S39), (⟨5, 1, (⟨#[]⟩ : ByteArray), false, (⟨#[]⟩ : ByteArray)⟩ : S39)] : List (S39))) (inner := [.int .i64 1, .int .i64 1, .string (⟨#[]⟩ : ByteArray), .bool false, .string (⟨#[]⟩ : ByteArray), .int .i64 2, .int .i64 1, .string (⟨#[120]⟩ : ByteArray), .bool false, .string (⟨#[]⟩ : ByteArray), .int .i64 3, .int .i64 1, .string (⟨#[120]⟩ : ByteArray), .bool true, .string (⟨#[97]⟩ : ByteArray), .int .i64 5, .int .i64 1, .string (⟨#[]⟩ : ByteArray), .bool false, .string (⟨#[]⟩ : ByteArray)]) (ok := fun _ => True) (okp := fun _ => True) ?hr ?hp (fun _ hk => hk) trivial (Below.refl _ _) (Nat.le_refl _) (by simp) ?_; (case hd => rfl); (case hg => rfl); (case hr => first | (go_simp; done) | (go_simp; rfl)); (case hp => exact (Reps.c5 (show Kd.M k39 _ _ _ (⟨1, 1, (⟨#[]⟩ : ByteArray), false, (⟨#[]⟩ : ByteArray)⟩ : S39) [.int .i64 1, .int .i64 1, .string (⟨#[]⟩ : ByteArray), .bool false, .string (⟨#[]⟩ : ByteArray)] from (k39_mkM _ _ _ (⟨1, 1, (⟨#[]⟩ : ByteArray), false, (⟨#[]⟩ : ByteArray)⟩ : S39) )) (Reps.c5 (show Kd.M k39 _ _ _ (⟨2, 1, (⟨#[120]⟩ : ByteArray), false, (⟨#[]⟩ : ByteArray)⟩ : S39) [.int .i64 2, .int .i64 1, .string (⟨#[120]⟩ : ByteArray), .bool false, .string (⟨#[]⟩ : ByteArray)] from (k39_mkM _ _ _ (⟨2, 1, (⟨#[120]⟩ : ByteArray), false, (⟨#[]⟩ : ByteArray)⟩ : S39) )) (Reps.c5 (show Kd.M k39 _ _ _ (⟨3, 1, (⟨#[120]⟩ : ByteArray), true, (⟨#[97]⟩ : ByteArray)⟩ : S39) [.int .i64 3, .int .i64 1, .string (⟨#[120]⟩ : ByteArray), .bool true, .string (⟨#[97]⟩ : ByteArray)] from (k39_mkM _ _ _ (⟨3, 1, (⟨#[120]⟩ : ByteArray), true, (⟨#[97]⟩ : ByteArray)⟩ : S39) )) (Reps.c5 (show Kd.M k39 _ _ _ (⟨5, 1, (⟨#[]⟩ : ByteArray), false, (⟨#[]⟩ : ByteArray)⟩ : S39) [.int .i64 5, .int .i64 1, .string (⟨#[]⟩ : ByteArray), .bool false, .string (⟨#[]⟩ : ByteArray)] from (k39_mkM _ _ _ (⟨5, 1, (⟨#[]⟩ : ByteArray), false, (⟨#[]⟩ : ByteArray)⟩ : S39) )) (Reps.none _ _)))))); intro v198 w11 ho12 hb hg_ hnew_; clear hg_ hnew_; (first | rw [← Ny197.out] at ho12 | (simp only [Int.reduceToNat] at ho12; rw [← Ny197.out] at ho12)); have n0_ := Aside0.mk (Kd.R_lower ho12 (below_size (by repeat (first | (with_reducible first | exact HB.out | apply below_alloc | apply pw_below_drewN | apply below_drew1) | exact HB.out)))); have n1_ := Aside0.mk (below_step (by repeat (first | (with_reducible first | exact HB.out | apply below_alloc | apply pw_below_drewN | apply below_drew1) | exact HB.out)) hb); clear HB; have HO199 := n0_; have HB := n1_; clear n0_ n1_; clear hb ho12; obtain ⟨Ao13, co13, eo13⟩ := Kd.R_slice HO199.out; subst eo13) | ((with_reducible refine gate_callee (f := 14) rfl ?_); refine goesL_ (some 9) rfl rfl Try.func14 (by kernel_rfl) rfl #[.slice none 0 0, .slice Ao13 y197.length co13] rfl (by (try simp only [List.map_toArray, List.map_cons, List.map_nil]); first | done | rfl | (simp only [List.length_drop, List.length_take]; rfl)) ?_; (refine (journal_State.calls _ _ ([] : List (S41)) _ _ y197 t200 t201 _ ?side1 ?side2 ?side3 ?side4 A1.out).mono ?_); (case side1 => exact Kd.C_nil _ _); (case side2 => exact Nat.le_refl _); (case side3 => repeat (first | exact (Kd.R_reads' HO199.out).2.2 | (with_reducible refine Kd.C_alloc ?_ _) | (with_reducible refine Kd.C_drewN ?_ _) | (with_reducible refine Kd.C_drew ?_))); (case side4 => exact (Kd.R_reads' HO199.out).2.1); rintro e w14 ⟨v202, rfl, ho0, hb⟩; refine ⟨_, rfl, ?_⟩; have n0_ := Aside0.mk (Kd.R_below (by (with_reducible repeat (first | apply Kd.R_alloc | apply Kd.R_drewN | apply Kd.R_drew)); exact HO199.out) hb); have n1_ := Aside0.mk (Kd.R_lower ho0 (below_size (by repeat (first | (with_reducible first | exact HB.out | apply below_alloc | apply pw_below_drewN | apply below_drew1) | exact HB.out)))); have n2_ := Aside0.mk (below_step (by repeat (first | (with_reducible first | exact HB.out | apply below_alloc | apply pw_below_drewN | apply below_drew1) | exact HB.out)) hb); clear HO199; clear HB; have HO199 := n0_; have HO203 := n1_; have HB := n2_; clear n0_ n1_ n2_; (try clear hb); (try clear hb2); (try clear hk); (try clear hi); (try clear ho0); obtain ⟨Ao15, co15, eo15⟩ := Kd.R_slice HO203.out; subst eo15; have p204 : 0 ≤ (0 : Int) := (by omega); have q204 : 0 < (t200.length : Int) := of_decide_eq_true (by first | (with_reducible assumption) | assumption); obtain ⟨ad204, e204, hx204_0, hx204_1, hx204_2⟩ := at_T41 (Kd.R_reads' HO203.out).2.2 0 p204 q204; cases e204; have qi204 : (0 < t200.length) = True := eq_true (by omega); (try rw [show ((0 : Int)).toNat = 0 from rfl] at hx204_0); (try rw [show 0 * 3 = 0 from rfl] at hx204_0); (try rw [Addr.add_zero'] at hx204_0); (try rw [show ((0 : Int)).toNat = 0 from rfl] at hx204_1); (try rw [show 0 * 3 = 0 from rfl] at hx204_1); (try rw [Addr.add_zero'] at hx204_1); (try rw [show ((0 : Int)).toNat = 0 from rfl] at hx204_2); (try rw [show 0 * 3 = 0 from rfl] at hx204_2); (try rw [Addr.add_zero'] at hx204_2); replace p204 := eq_true p204; replace q204 := eq_true q204))
          go_ret
          exact ⟨by first | rfl | (simp [errW_none, errW_some] <;> rfl) | (simp [*, errW_none, errW_some] <;> rfl), by repeat (first | (with_reducible first | exact HB.out | apply below_alloc | apply pw_below_drewN | apply below_drew1) | exact HB.out)⟩
      · rw [if_neg c4] at H
        exact absurd H (by simp)
    · rw [if_neg c3] at H
      have c3b0 : ((t200.length : Int) == 1) = false := beq_eq_false_iff_ne.mpr c3
      have c3b1 : ((t200.length : Int) != 1) = true := bne_iff_ne.mpr c3
      obtain rfl := Option.some.inj H
      go_enter Try.func12, Try.ntmps12
      go_wp2_with (first | ((with_reducible refine gate_dst (N := 8) rfl ?_); (try (refine gate_guard (by rfl) ?_; dsimp only)); refine Kd.R_lit k39 _ 39 ?hg (N := 8) ?hd (xs := ([(⟨1, 1, (⟨#[]⟩ : ByteArray), false, (⟨#[]⟩ : ByteArray)⟩ : S39), (⟨2, 1, (⟨#[120]⟩ : ByteArray), false, (⟨#[]⟩ : ByteArray)⟩ : S39), (⟨3, 1, (⟨#[120]⟩ : ByteArray), true, (⟨#[97]⟩ : ByteArray)⟩ : S39), (⟨5, 1, (⟨#[]⟩ : ByteArray), false, (⟨#[]⟩ : ByteArray)⟩ : S39)] : List (S39))) (inner := [.int .i64 1, .int .i64 1, .string (⟨#[]⟩ : ByteArray), .bool false, .string (⟨#[]⟩ : ByteArray), .int .i64 2, .int .i64 1, .string (⟨#[120]⟩ : ByteArray), .bool false, .string (⟨#[]⟩ : ByteArray), .int .i64 3, .int .i64 1, .string (⟨#[120]⟩ : ByteArray), .bool true, .string (⟨#[97]⟩ : ByteArray), .int .i64 5, .int .i64 1, .string (⟨#[]⟩ : ByteArray), .bool false, .string (⟨#[]⟩ : ByteArray)]) (ok := fun _ => True) (okp := fun _ => True) ?hr ?hp (fun _ hk => hk) trivial (Below.refl _ _) (Nat.le_refl _) (by simp) ?_; (case hd => rfl); (case hg => rfl); (case hr => first | (go_simp; done) | (go_simp; rfl)); (case hp => exact (Reps.c5 (show Kd.M k39 _ _ _ (⟨1, 1, (⟨#[]⟩ : ByteArray), false, (⟨#[]⟩ : ByteArray)⟩ : S39) [.int .i64 1, .int .i64 1, .string (⟨#[]⟩ : ByteArray), .bool false, .string (⟨#[]⟩ : ByteArray)] from (k39_mkM _ _ _ (⟨1, 1, (⟨#[]⟩ : ByteArray), false, (⟨#[]⟩ : ByteArray)⟩ : S39) )) (Reps.c5 (show Kd.M k39 _ _ _ (⟨2, 1, (⟨#[120]⟩ : ByteArray), false, (⟨#[]⟩ : ByteArray)⟩ : S39) [.int .i64 2, .int .i64 1, .string (⟨#[120]⟩ : ByteArray), .bool false, .string (⟨#[]⟩ : ByteArray)] from (k39_mkM _ _ _ (⟨2, 1, (⟨#[120]⟩ : ByteArray), false, (⟨#[]⟩ : ByteArray)⟩ : S39) )) (Reps.c5 (show Kd.M k39 _ _ _ (⟨3, 1, (⟨#[120]⟩ : ByteArray), true, (⟨#[97]⟩ : ByteArray)⟩ : S39) [.int .i64 3, .int .i64 1, .string (⟨#[120]⟩ : ByteArray), .bool true, .string (⟨#[97]⟩ : ByteArray)] from (k39_mkM _ _ _ (⟨3, 1, (⟨#[120]⟩ : ByteArray), true, (⟨#[97]⟩ : ByteArray)⟩ : S39) )) (Reps.c5 (show Kd.M k39 _ _ _ (⟨5, 1, (⟨#[]⟩ : ByteArray), false, (⟨#[]⟩ : ByteArray)⟩ : S39) [.int .i64 5, .int .i64 1, .string (⟨#[]⟩ : ByteArray), .bool false, .string (⟨#[]⟩ : ByteArray)] from (k39_mkM _ _ _ (⟨5, 1, (⟨#[]⟩ : ByteArray), false, (⟨#[]⟩ : ByteArray)⟩ : S39) )) (Reps.none _ _)))))); intro v198 w16 ho17 hb hg_ hnew_; clear hg_ hnew_; (first | rw [← Ny197.out] at ho17 | (simp only [Int.reduceToNat] at ho17; rw [← Ny197.out] at ho17)); have n0_ := Aside0.mk (Kd.R_lower ho17 (below_size (by repeat (first | (with_reducible first | exact HB.out | apply below_alloc | apply pw_below_drewN | apply below_drew1) | exact HB.out)))); have n1_ := Aside0.mk (below_step (by repeat (first | (with_reducible first | exact HB.out | apply below_alloc | apply pw_below_drewN | apply below_drew1) | exact HB.out)) hb); clear HB; have HO199 := n0_; have HB := n1_; clear n0_ n1_; clear hb ho17; obtain ⟨Ao18, co18, eo18⟩ := Kd.R_slice HO199.out; subst eo18) | ((with_reducible refine gate_callee (f := 14) rfl ?_); refine goesL_ (some 9) rfl rfl Try.func14 (by kernel_rfl) rfl #[.slice none 0 0, .slice Ao18 y197.length co18] rfl (by (try simp only [List.map_toArray, List.map_cons, List.map_nil]); first | done | rfl | (simp only [List.length_drop, List.length_take]; rfl)) ?_; (refine (journal_State.calls _ _ ([] : List (S41)) _ _ y197 t200 t201 _ ?side1 ?side2 ?side3 ?side4 A1.out).mono ?_); (case side1 => exact Kd.C_nil _ _); (case side2 => exact Nat.le_refl _); (case side3 => repeat (first | exact (Kd.R_reads' HO199.out).2.2 | (with_reducible refine Kd.C_alloc ?_ _) | (with_reducible refine Kd.C_drewN ?_ _) | (with_reducible refine Kd.C_drew ?_))); (case side4 => exact (Kd.R_reads' HO199.out).2.1); rintro e w19 ⟨v202, rfl, ho0, hb⟩; refine ⟨_, rfl, ?_⟩; have n0_ := Aside0.mk (Kd.R_below (by (with_reducible repeat (first | apply Kd.R_alloc | apply Kd.R_drewN | apply Kd.R_drew)); exact HO199.out) hb); have n1_ := Aside0.mk (Kd.R_lower ho0 (below_size (by repeat (first | (with_reducible first | exact HB.out | apply below_alloc | apply pw_below_drewN | apply below_drew1) | exact HB.out)))); have n2_ := Aside0.mk (below_step (by repeat (first | (with_reducible first | exact HB.out | apply below_alloc | apply pw_below_drewN | apply below_drew1) | exact HB.out)) hb); clear HO199; clear HB; have HO199 := n0_; have HO203 := n1_; have HB := n2_; clear n0_ n1_ n2_; (try clear hb); (try clear hb2); (try clear hk); (try clear hi); (try clear ho0); obtain ⟨Ao20, co20, eo20⟩ := Kd.R_slice HO203.out; subst eo20))
      go_ret
      exact ⟨by first | rfl | (simp [errW_none, errW_some] <;> rfl) | (simp [*, errW_none, errW_some] <;> rfl), by repeat (first | (with_reducible first | exact HB.out | apply below_alloc | apply pw_below_drewN | apply below_drew1) | exact HB.out)⟩
  · rw [if_neg c2] at H
    have c2b0 : (t201 == 0) = false := beq_eq_false_iff_ne.mpr c2
    have c2b1 : (t201 != 0) = true := bne_iff_ne.mpr c2
    obtain rfl := Option.some.inj H
    go_enter Try.func12, Try.ntmps12
    go_wp2_with (first | ((with_reducible refine gate_dst (N := 8) rfl ?_); (try (refine gate_guard (by rfl) ?_; dsimp only)); refine Kd.R_lit k39 _ 39 ?hg (N := 8) ?hd (xs := ([(⟨1, 1, (⟨#[]⟩ : ByteArray), false, (⟨#[]⟩ : ByteArray)⟩ : S39), (⟨2, 1, (⟨#[120]⟩ : ByteArray), false, (⟨#[]⟩ : ByteArray)⟩ : S39), (⟨3, 1, (⟨#[120]⟩ : ByteArray), true, (⟨#[97]⟩ : ByteArray)⟩ : S39), (⟨5, 1, (⟨#[]⟩ : ByteArray), false, (⟨#[]⟩ : ByteArray)⟩ : S39)] : List (S39))) (inner := [.int .i64 1, .int .i64 1, .string (⟨#[]⟩ : ByteArray), .bool false, .string (⟨#[]⟩ : ByteArray), .int .i64 2, .int .i64 1, .string (⟨#[120]⟩ : ByteArray), .bool false, .string (⟨#[]⟩ : ByteArray), .int .i64 3, .int .i64 1, .string (⟨#[120]⟩ : ByteArray), .bool true, .string (⟨#[97]⟩ : ByteArray), .int .i64 5, .int .i64 1, .string (⟨#[]⟩ : ByteArray), .bool false, .string (⟨#[]⟩ : ByteArray)]) (ok := fun _ => True) (okp := fun _ => True) ?hr ?hp (fun _ hk => hk) trivial (Below.refl _ _) (Nat.le_refl _) (by simp) ?_; (case hd => rfl); (case hg => rfl); (case hr => first | (go_simp; done) | (go_simp; rfl)); (case hp => exact (Reps.c5 (show Kd.M k39 _ _ _ (⟨1, 1, (⟨#[]⟩ : ByteArray), false, (⟨#[]⟩ : ByteArray)⟩ : S39) [.int .i64 1, .int .i64 1, .string (⟨#[]⟩ : ByteArray), .bool false, .string (⟨#[]⟩ : ByteArray)] from (k39_mkM _ _ _ (⟨1, 1, (⟨#[]⟩ : ByteArray), false, (⟨#[]⟩ : ByteArray)⟩ : S39) )) (Reps.c5 (show Kd.M k39 _ _ _ (⟨2, 1, (⟨#[120]⟩ : ByteArray), false, (⟨#[]⟩ : ByteArray)⟩ : S39) [.int .i64 2, .int .i64 1, .string (⟨#[120]⟩ : ByteArray), .bool false, .string (⟨#[]⟩ : ByteArray)] from (k39_mkM _ _ _ (⟨2, 1, (⟨#[120]⟩ : ByteArray), false, (⟨#[]⟩ : ByteArray)⟩ : S39) )) (Reps.c5 (show Kd.M k39 _ _ _ (⟨3, 1, (⟨#[120]⟩ : ByteArray), true, (⟨#[97]⟩ : ByteArray)⟩ : S39) [.int .i64 3, .int .i64 1, .string (⟨#[120]⟩ : ByteArray), .bool true, .string (⟨#[97]⟩ : ByteArray)] from (k39_mkM _ _ _ (⟨3, 1, (⟨#[120]⟩ : ByteArray), true, (⟨#[97]⟩ : ByteArray)⟩ : S39) )) (Reps.c5 (show Kd.M k39 _ _ _ (⟨5, 1, (⟨#[]⟩ : ByteArray), false, (⟨#[]⟩ : ByteArray)⟩ : S39) [.int .i64 5, .int .i64 1, .string (⟨#[]⟩ : ByteArray), .bool false, .string (⟨#[]⟩ : ByteArray)] from (k39_mkM _ _ _ (⟨5, 1, (⟨#[]⟩ : ByteArray), false, (⟨#[]⟩ : ByteArray)⟩ : S39) )) (Reps.none _ _)))))); intro v198 w21 ho22 hb hg_ hnew_; clear hg_ hnew_; (first | rw [← Ny197.out] at ho22 | (simp only [Int.reduceToNat] at ho22; rw [← Ny197.out] at ho22)); have n0_ := Aside0.mk (Kd.R_lower ho22 (below_size (by repeat (first | (with_reducible first | exact HB.out | apply below_alloc | apply pw_below_drewN | apply below_drew1) | exact HB.out)))); have n1_ := Aside0.mk (below_step (by repeat (first | (with_reducible first | exact HB.out | apply below_alloc | apply pw_below_drewN | apply below_drew1) | exact HB.out)) hb); clear HB; have HO199 := n0_; have HB := n1_; clear n0_ n1_; clear hb ho22; obtain ⟨Ao23, co23, eo23⟩ := Kd.R_slice HO199.out; subst eo23) | ((with_reducible refine gate_callee (f := 14) rfl ?_); refine goesL_ (some 9) rfl rfl Try.func14 (by kernel_rfl) rfl #[.slice none 0 0, .slice Ao23 y197.length co23] rfl (by (try simp only [List.map_toArray, List.map_cons, List.map_nil]); first | done | rfl | (simp only [List.length_drop, List.length_take]; rfl)) ?_; (refine (journal_State.calls _ _ ([] : List (S41)) _ _ y197 t200 t201 _ ?side1 ?side2 ?side3 ?side4 A1.out).mono ?_); (case side1 => exact Kd.C_nil _ _); (case side2 => exact Nat.le_refl _); (case side3 => repeat (first | exact (Kd.R_reads' HO199.out).2.2 | (with_reducible refine Kd.C_alloc ?_ _) | (with_reducible refine Kd.C_drewN ?_ _) | (with_reducible refine Kd.C_drew ?_))); (case side4 => exact (Kd.R_reads' HO199.out).2.1); rintro e w24 ⟨v202, rfl, ho0, hb⟩; refine ⟨_, rfl, ?_⟩; have n0_ := Aside0.mk (Kd.R_below (by (with_reducible repeat (first | apply Kd.R_alloc | apply Kd.R_drewN | apply Kd.R_drew)); exact HO199.out) hb); have n1_ := Aside0.mk (Kd.R_lower ho0 (below_size (by repeat (first | (with_reducible first | exact HB.out | apply below_alloc | apply pw_below_drewN | apply below_drew1) | exact HB.out)))); have n2_ := Aside0.mk (below_step (by repeat (first | (with_reducible first | exact HB.out | apply below_alloc | apply pw_below_drewN | apply below_drew1) | exact HB.out)) hb); clear HO199; clear HB; have HO199 := n0_; have HO203 := n1_; have HB := n2_; clear n0_ n1_ n2_; (try clear hb); (try clear hb2); (try clear hk); (try clear hi); (try clear ho0)))
    go_ret
    exact ⟨by first | rfl | (simp [errW_none, errW_some] <;> rfl) | (simp [*, errW_none, errW_some] <;> rfl), by repeat (first | (with_reducible first | exact HB.out | apply below_alloc | apply pw_below_drewN | apply below_drew1) | exact HB.out)⟩

end Go.Proofs.Yteblpjnkinghoaa.J
/- The laws' guards, and State. -/
namespace Go.Proofs.Yteblpjnkinghoaa.J
open Go.RowKit Go.Proofs.YteblpjnkinghoaaW.PrintWords
theorem images_guard_from (l : List S41) (hl : l.length ≤ 9223372036854775807) : ∀ (d i : Nat), d = 60 - i → i ≤ 60 → ∀ s : Int, ∃ b, Ev (fun k => ringworklaw25_Images.l0 k l s (i : Int)) b ∧ (b = true → l.length ≤ 60) := by
  intro d
  induction d with
  | zero =>
    intro i hd hi s
    have : i = 60 := by omega
    subst this
    by_cases hn : (l.length : Int) ≤ 60
    · exact ⟨_, Ev.step (fun k => by rw [ringworklaw25_Images.l0, if_neg (by omega), if_pos hn]) (Ev.val (decide (s ≤ 6000))), fun _ => by omega⟩
    · exact ⟨false, Ev.step (fun k => by rw [ringworklaw25_Images.l0, if_pos (by omega), if_neg (by decide), if_neg hn]) (Ev.val false), fun h => by cases h⟩
  | succ d ih =>
    intro i hd hi s
    by_cases hlt : i < l.length
    · obtain ⟨b, hb, hbb⟩ := ih (i + 1) (by omega) (by omega) (wrap64 ((wrap64 (s + (((rd_T41 l (i : Int)).f0).size : Int))) + (((rd_T41 l (i : Int)).f2).size : Int)))
      refine ⟨b, Ev.step (fun k => by rw [ringworklaw25_Images.l0, if_pos (by omega), if_pos (by omega), if_pos (by omega), wrap_next hlt hl]) hb, hbb⟩
    · exact ⟨_, Ev.step (fun k => by rw [ringworklaw25_Images.l0, if_neg (by omega), if_pos (by omega)]) (Ev.val (decide (s ≤ 6000))), fun _ => by omega⟩
theorem images_guard (l : List S41) (hl : l.length ≤ 9223372036854775807) : ∃ b, Ev (fun k => ringworklaw25_Images.f k l) b ∧ (b = true → l.length ≤ 60) := images_guard_from l hl 60 0 rfl (by omega) 0
theorem awake_true : ringworklaw25_awake.f = some true := by kernel_rfl
end Go.Proofs.Yteblpjnkinghoaa.J
/- A state as what lies at each key. -/
namespace Go.Proofs.Yteblpjnkinghoaa.J
open Go.RowKit
/-- What lies at a key. -/
def look (l : List S41) (k : ByteArray) : Option S41 := l.find? fun y => decide (y.f0 = k)
theorem look_cons (x : S41) (l : List S41) (k : ByteArray) : look (x :: l) k = if x.f0 = k then some x else look l k := by
  unfold look; rw [List.find?_cons]
  by_cases h : x.f0 = k
  · rw [if_pos h, decide_eq_true h]
  · rw [if_neg h, decide_eq_false h]
theorem look_none {l : List S41} {k : ByteArray} (h : ∀ y ∈ l, y.f0 ≠ k) : look l k = none := by
  unfold look; rw [List.find?_eq_none]; intro y hy; simpa using h y hy
theorem look_append (a b : List S41) (k : ByteArray) : look (a ++ b) k = (look a k).or (look b k) := by
  unfold look; rw [List.find?_append]
theorem kless_ne {a b : ByteArray} (h : kless a b = true) : a ≠ b := fun e => by rw [e, kless_irr] at h; cases h
theorem sorted_ext : ∀ {a b : List S41}, Sorted a → Sorted b → (∀ k, look a k = look b k) → a = b
  | [], [], _, _, _ => rfl
  | [], y :: b, _, _, h => by have := h y.f0; rw [look_cons, if_pos rfl] at this; cases this
  | x :: a, [], _, _, h => by have := h x.f0; rw [look_cons, if_pos rfl] at this; cases this
  | x :: a, y :: b, ha, hb, h => by
    have ha' := List.pairwise_cons.1 ha
    have hb' := List.pairwise_cons.1 hb
    have hxy : x.f0 = y.f0 := by
      cases h1 : kless x.f0 y.f0 with
      | true =>
        have := h x.f0
        rw [look_cons, if_pos rfl, look_cons, if_neg (kless_ne h1).symm, look_none (fun z hz => (kless_ne (kless_trans h1 (hb'.1 z hz))).symm)] at this
        cases this
      | false =>
        cases h2 : kless y.f0 x.f0 with
        | true =>
          have := h y.f0
          rw [look_cons, if_neg (kless_ne h2).symm, look_none (fun z hz => (kless_ne (kless_trans h2 (ha'.1 z hz))).symm), look_cons, if_pos rfl] at this
          cases this
        | false =>
          by_cases he : x.f0 = y.f0
          · exact he
          · have := kless_tri h1 he; rw [h2] at this; cases this
    have hx := h x.f0
    rw [look_cons, if_pos rfl, look_cons, if_pos hxy.symm] at hx
    cases hx
    rw [sorted_ext ha'.2 hb'.2 (fun k => ?_)]
    have hk := h k
    rw [look_cons, look_cons] at hk
    by_cases he : x.f0 = k
    · subst he
      rw [look_none (fun z hz => (kless_ne (ha'.1 z hz)).symm), look_none (fun z hz => (kless_ne (hb'.1 z hz)).symm)]
    · rw [if_neg he, if_neg he] at hk; exact hk
theorem look_apStep {cur : List S41} (hs : Sorted cur) (x : S41) (k : ByteArray) : look (apStep cur x) k = if k = x.f0 then (if x.f1 = true then some x else none) else look cur k := by
  have hs' : Sorted (cur.takeWhile (fun y => kless y.f0 x.f0) ++ cur.dropWhile (fun y => kless y.f0 x.f0)) := by rw [List.takeWhile_append_dropWhile]; exact hs
  obtain ⟨h1, h2, h3⟩ := List.pairwise_append.1 hs'
  obtain ⟨h4, h5⟩ := rest_sorted (x := x) h2 (dw_head _ _)
  have h6 := tw_all (fun y => kless y.f0 x.f0) cur
  have hc : look cur k = (look (cur.takeWhile (fun y => kless y.f0 x.f0)) k).or (look (cur.dropWhile (fun y => kless y.f0 x.f0)) k) := by
    rw [← look_append, List.takeWhile_append_dropWhile]
  unfold apStep
  rw [look_append, look_append]
  by_cases hk : k = x.f0
  · subst hk
    rw [if_pos rfl, look_none (l := cur.takeWhile _) (fun z hz => kless_ne (h6 z hz)), look_none (l := apRest x _) (fun z hz => (kless_ne (h5 z hz)).symm)]
    split
    · rw [look_cons, if_pos rfl]; rfl
    · rfl
  · rw [if_neg hk, hc]
    have e1 : look (if x.f1 = true then [x] else []) k = none := by
      split
      · rw [look_cons, if_neg (Ne.symm hk)]; rfl
      · rfl
    have e2 : look (apRest x (cur.dropWhile (fun y => kless y.f0 x.f0))) k = look (cur.dropWhile (fun y => kless y.f0 x.f0)) k := by
      cases cur.dropWhile (fun y => kless y.f0 x.f0) with
      | nil => rfl
      | cons y r =>
        rw [apRest_cons]
        split
        · rename_i he; rw [look_cons, if_neg (by rw [he]; exact Ne.symm hk)]
        · rfl
    rw [e1, e2, Option.or_none]
/-- The last image of a key. -/
def lastOf : List S41 → ByteArray → Option S41
  | [], _ => none
  | x :: a, k => match lastOf a k with
    | some y => some y
    | none => if x.f0 = k then some x else none
/-- What lies at a key after images. -/
def after (o : Option S41) (d : Option S41) : Option S41 := match o with
  | some x => if x.f1 = true then some x else none
  | none => d
theorem fold_look : ∀ (a s : List S41), Sorted s → Sorted (a.foldl apStep s) ∧ ∀ k, look (a.foldl apStep s) k = after (lastOf a k) (look s k)
  | [], s, hs => ⟨hs, fun _ => rfl⟩
  | x :: a, s, hs => by
    obtain ⟨h1, h2⟩ := fold_look a (apStep s x) (apStep_sorted hs x)
    refine ⟨h1, fun k => ?_⟩
    rw [List.foldl_cons, h2, lastOf]
    cases lastOf a k with
    | some y => rfl
    | none =>
      show look (apStep s x) k = _
      rw [look_apStep hs]
      by_cases hk : k = x.f0
      · rw [if_pos hk, if_pos hk.symm]; rfl
      · rw [if_neg hk, if_neg (Ne.symm hk)]; rfl
theorem apStep_mem {cur : List S41} {x y : S41} (h : y ∈ apStep cur x) : y ∈ cur ∨ (y = x ∧ x.f1 = true) := by
  unfold apStep at h
  rcases List.mem_append.1 h with h | h
  · rcases List.mem_append.1 h with h | h
    · exact .inl (List.takeWhile_subset _ h)
    · split at h
      · rename_i hf; exact .inr ⟨by simpa using h, hf⟩
      · cases h
  · exact .inl (List.dropWhile_subset _ (rest_sub x _ y h))
theorem fold_all (P : S41 → Prop) : ∀ (a s : List S41), (∀ y ∈ s, P y) → (∀ x ∈ a, x.f1 = true → P x) → ∀ y ∈ a.foldl apStep s, P y
  | [], _, h, _ => h
  | x :: a, s, h, h2 => fold_all P a (apStep s x) (fun y hy => by
      rcases apStep_mem hy with hy | ⟨rfl, hf⟩
      · exact h y hy
      · exact h2 _ (List.mem_cons_self) hf) (fun z hz => h2 z (List.mem_cons_of_mem _ hz))
theorem ordV_iff (l : List S41) : ordV l = true ↔ Sorted l ∧ (∀ y ∈ l, img y = true ∧ y.f1 = true) ∧ l.length ≤ 500 := by
  unfold ordV
  rw [Bool.and_eq_true, decide_eq_true_eq]
  constructor
  · rintro ⟨h, hl⟩
    refine ⟨good_sorted h, fun y hy => ?_, hl⟩
    obtain ⟨k, hk, rfl⟩ := List.getElem_of_mem hy
    have := List.all_eq_true.1 h k (List.mem_range.2 hk)
    unfold goodAt at this
    rw [rd_mem hk] at this
    simp only [Bool.and_eq_true] at this
    exact this.1
  · rintro ⟨hs, ha, hl⟩
    refine ⟨List.all_eq_true.2 fun k hk => ?_, hl⟩
    have hk := List.mem_range.1 hk
    have := ha _ (List.getElem_mem hk)
    unfold goodAt
    rw [rd_mem hk, this.1, this.2]
    cases k with
    | zero => rfl
    | succ k =>
      rw [show ((k + 1 : Nat) : Int) - 1 = (k : Int) by omega, rd_mem (by omega)]
      have := List.pairwise_iff_getElem.1 hs k (k + 1) (by omega) hk (by omega)
      simp only [Bool.true_and, Bool.or_eq_true]
      exact .inr this
/-- P25.5: what Apply gives is a state, and applying once more changes nothing. -/
theorem apply_once {s a r : List S41} (h : journal_Apply.f s a = some (r, 0)) : ordV s = true ∧ a.all img = true ∧ r = a.foldl apStep s ∧ ordV r = true ∧ a.length ≤ 900000 := by
  unfold journal_Apply.f at h
  split at h
  · rename_i hl
    split at h
    · rename_i hv
      split at h
      · cases h
      · rename_i h5
        cases h
        obtain ⟨h1, h2, _⟩ := (ordV_iff s).1 hv.1
        refine ⟨hv.1, hv.2, rfl, (ordV_iff _).2 ⟨(fold_look a s h1).1, fold_all (fun y => img y = true ∧ y.f1 = true) a s h2 (fun x hx hf => ⟨List.all_eq_true.1 hv.2 x hx, hf⟩), by omega⟩, hl⟩
    · cases h
  · cases h
end Go.Proofs.Yteblpjnkinghoaa.J
/- A journal cut in two where no unit goes on: its rest is right by itself, and its afters that count are those of the two parts. -/
namespace Go.Proofs.Yteblpjnkinghoaa.J
open Go.RowKit Go.Proofs.YteblpjnkinghoaaW.PrintWords
theorem rightN_iff (l : List S39) : rightN l = 0 ↔ (l.length ≤ 1000 ∧ l.all vld = true) ∧ (wrongFrom l 0 ⟨fun _ => none, fun _ => none⟩).2 = 0 := by
  constructor
  · intro h
    obtain ⟨_, hv⟩ := right_cases l
    have hv := hv (by omega)
    refine ⟨hv, ?_⟩
    unfold rightN journal_right.f journal_Wrong.f at h
    rw [if_pos hv] at h
    simp only [Option.bind_some] at h
    by_cases h0 : (wrongFrom l 0 ⟨fun _ => none, fun _ => none⟩).2 = 0
    · exact h0
    · rw [if_neg h0, if_neg (wrongFrom_err _ _ _)] at h; cases h
  · rintro ⟨hv, h0⟩
    unfold rightN journal_right.f journal_Wrong.f
    rw [if_pos hv]
    simp only [Option.bind_some]
    rw [if_pos h0, h0]; rfl
end Go.Proofs.Yteblpjnkinghoaa.J
/- JournalCuts holds of every input, in plain words. -/
namespace Go.Proofs.Yteblpjnkinghoaa.J
open Go.RowKit Go.Proofs.YteblpjnkinghoaaW.PrintWords
theorem apply_eq {s a : List S41} (ha : a.length ≤ 900000) (ho : ordV s = true) : journal_Apply.f s a = if a.all img = true then (if 500 < (a.foldl apStep s).length then some ([], 4) else some (a.foldl apStep s, 0)) else some ([], 1) := by
  unfold journal_Apply.f
  rw [if_pos ha]
  by_cases h : a.all img = true
  · rw [if_pos ⟨ho, h⟩, if_pos h]
  · rw [if_neg (fun hh => h hh.2), if_neg h]
end Go.Proofs.Yteblpjnkinghoaa.J
/- What a unit did to a state is undone by its before images. -/
namespace Go.Proofs.Yteblpjnkinghoaa.J
open Go.RowKit Go.Proofs.YteblpjnkinghoaaW.PrintWords
/-- What was there before an image. -/
def beforeOf (u : Int) (s : List S41) (x : S41) : S39 := match look s x.f0 with
  | some y => ⟨2, u, x.f0, true, y.f2⟩
  | none => ⟨2, u, x.f0, false, ⟨#[]⟩⟩
def afterOf (u : Int) (x : S41) : S39 := ⟨3, u, x.f0, x.f1, x.f2⟩
theorem before_kind (u : Int) (s : List S41) (x : S41) : (beforeOf u s x).f0 = 2 ∧ (beforeOf u s x).f1 = u ∧ (beforeOf u s x).f2 = x.f0 := by
  unfold beforeOf; split <;> exact ⟨rfl, rfl, rfl⟩
/-- The notes of images that are done one after the other. -/
def noted (u : Int) : List S41 → List S41 → List S39
  | _, [] => []
  | s, x :: r => beforeOf u s x :: afterOf u x :: noted u (apStep s x) r
theorem noted_len (u : Int) : ∀ (r s : List S41), (noted u s r).length = 2 * r.length
  | [], _ => rfl
  | x :: r, s => by simp only [noted, List.length_cons, noted_len u r]; omega
theorem noted_snoc (u : Int) (x : S41) : ∀ (r s : List S41), noted u s (r ++ [x]) = noted u s r ++ [beforeOf u (r.foldl apStep s) x, afterOf u x]
  | [], s => rfl
  | y :: r, s => by rw [List.cons_append, noted, noted, noted_snoc u x r]; rfl
theorem look_mem {l : List S41} {k : ByteArray} {y : S41} (h : look l k = some y) : y ∈ l ∧ y.f0 = k := by
  unfold look at h
  exact ⟨List.mem_of_find?_eq_some h, by simpa using List.find?_some h⟩
theorem img_parts {x : S41} (h : img x = true) : x.f0.toList ≠ [] ∧ (x.f0.size : Int) ≤ 40 ∧ (x.f2.size : Int) ≤ 4000 ∧ (x.f1 = true ∨ x.f2.toList = []) := by
  unfold img journal_image.f at h
  by_cases a3 : x.f0.toList = [] <;> by_cases a4 : (x.f0.size : Int) ≤ 40 <;> by_cases a5 : (x.f2.size : Int) ≤ 4000 <;> cases hf : x.f1 <;> by_cases a6 : x.f2.toList = [] <;> simp [a3, a4, a5, a6, hf] at h ⊢
theorem img_mk {x : S41} (h1 : x.f0.toList ≠ []) (h2 : (x.f0.size : Int) ≤ 40) (h3 : (x.f2.size : Int) ≤ 4000) (h4 : x.f1 = true ∨ x.f2.toList = []) : img x = true := by
  unfold img journal_image.f
  rcases h4 with h4 | h4 <;> simp [h1, h2, h3, h4]
theorem vld_pict {n : S39} (hk : n.f0 = 2 ∨ n.f0 = 3) (hu : 1 ≤ n.f1 ∧ n.f1 ≤ 1000) (hi : img (imgOf n) = true) : vld n = true := by
  obtain ⟨h1, h2, h3, h4⟩ := img_parts hi
  simp only [imgOf] at h1 h2 h3 h4
  unfold vld journal_Valid.f
  rw [if_neg (by omega), if_neg (by omega), if_pos hk]
  unfold journal_imaged.f journal_unit.f
  rcases h4 with h4 | h4
  · simp [hu.1, hu.2, h1, h2, h3, h4]
  · cases n.f3 <;> simp [hu.1, hu.2, h1, h2, h3, h4]
theorem before_img {u : Int} {s : List S41} {x : S41} (hs : ∀ y ∈ s, img y = true ∧ y.f1 = true) (hx : img x = true) : img (imgOf (beforeOf u s x)) = true := by
  obtain ⟨h1, h2, h3, h4⟩ := img_parts hx
  unfold beforeOf
  split
  · rename_i y hy
    obtain ⟨hm, _⟩ := look_mem hy
    obtain ⟨_, _, g3, _⟩ := img_parts (hs y hm).1
    exact img_mk h1 h2 g3 (.inl rfl)
  · exact img_mk h1 h2 (by show (((⟨#[]⟩ : ByteArray).size : Nat) : Int) ≤ 4000; decide) (.inr ((toList_nil_iff ⟨#[]⟩).2 rfl))
theorem noted_vld {u : Int} (hu : 1 ≤ u ∧ u ≤ 1000) : ∀ (r s : List S41), (∀ y ∈ s, img y = true ∧ y.f1 = true) → r.all img = true → (noted u s r).all vld = true
  | [], _, _, _ => rfl
  | x :: r, s, hs, hr => by
    rw [List.all_cons, Bool.and_eq_true] at hr
    rw [noted, List.all_cons, List.all_cons, Bool.and_eq_true, Bool.and_eq_true]
    obtain ⟨b1, b2, _⟩ := before_kind u s x
    refine ⟨vld_pict (.inl b1) (by rw [b2]; exact hu) (before_img hs hr.1), vld_pict (.inr rfl) hu hr.1, noted_vld hu r (apStep s x) (fun y hy => ?_) hr.2⟩
    rcases apStep_mem hy with hy | ⟨rfl, hf⟩
    · exact hs y hy
    · exact ⟨hr.1, hf⟩
theorem wrong_after {st : WSt} {n : S39} {K : ByteArray → Bool} (h3 : n.f0 = 3) (hon : st.on n.f1 = some K) (hk : K n.f2 = true) (ht : (st.tk n.f2).any (· ≠ n.f1) = false) :
    wrongStep st n = .inr ⟨st.set n.f1 (some fun k => if k = n.f2 then true else K k), fun k => if k = n.f2 then some n.f1 else st.tk k⟩ := by
  unfold wrongStep
  rw [h3, hon, if_neg (by simp), if_neg (by decide), if_pos (.inl rfl)]
  simp only [Option.getD_some]
  rw [if_neg (fun h => by rw [hk] at h; cases h.2), ht, if_neg (by decide)]
theorem noted_right {u : Int} : ∀ (r s : List S41) (i : Nat) (st : WSt), (∃ K, st.on u = some K) → (∀ k o, st.tk k = some o → o = u) → (wrongFrom (noted u s r) i st).2 = 0
  | [], _, _, _, _, _ => rfl
  | x :: r, s, i, st, ⟨K, hK⟩, ht => by
    obtain ⟨b1, b2, b3⟩ := before_kind u s x
    have hany : ∀ (t : ByteArray → Option Int) (k : ByteArray), (∀ k o, t k = some o → o = u) → (t k).any (· ≠ u) = false := fun t k h => by
      cases hk : t k with
      | none => rfl
      | some o => have := h k o hk; subst this; simp
    rw [noted, wrongFrom]
    have e1 : wrongStep st (beforeOf u s x) = .inr ⟨st.set u (some fun k => if k = x.f0 then true else K k), fun k => if k = x.f0 then some u else st.tk k⟩ := by
      unfold wrongStep
      rw [b1, b2, b3, hK, if_neg (by simp), if_neg (by decide), if_pos (.inr rfl)]
      simp only [Option.getD_some]
      rw [if_neg (fun h => by have := h.1; omega), hany _ _ ht, if_neg (by decide)]
    rw [e1]
    show (wrongFrom (afterOf u x :: noted u (apStep s x) r) (i + 1) _).2 = 0
    rw [wrongFrom]
    have ht2 : ∀ k o, (if k = x.f0 then some u else st.tk k) = some o → o = u := fun k o h => by
      split at h
      · exact (Option.some.inj h).symm
      · exact ht k o h
    have e2 : ∃ st', wrongStep ⟨st.set u (some fun k => if k = x.f0 then true else K k), fun k => if k = x.f0 then some u else st.tk k⟩ (afterOf u x) = .inr st' ∧ (∃ K, st'.on u = some K) ∧ ∀ k o, st'.tk k = some o → o = u := by
      refine ⟨_, wrong_after (n := afterOf u x) rfl (if_pos rfl) (if_pos rfl) (hany _ _ ht2), ⟨_, if_pos rfl⟩, fun k o h => ?_⟩
      by_cases hk : k = x.f0
      · exact (Option.some.inj ((if_pos hk).symm.trans h)).symm
      · exact ht2 k o ((if_neg hk).symm.trans h)
    obtain ⟨st', e2, h1, h2⟩ := e2
    rw [e2]
    exact noted_right r (apStep s x) (i + 1 + 1) st' h1 h2
theorem noted_since {u : Int} : ∀ (r s : List S41) (i : Nat) (st : Int × Bool), sinceFrom u (noted u s r) i st = st
  | [], _, _, _ => rfl
  | x :: r, s, i, st => by
    obtain ⟨b1, b2, _⟩ := before_kind u s x
    rw [noted, sinceFrom, sinceFrom]
    have e1 : sinceStep u st i (beforeOf u s x) = st := by
      unfold sinceStep; rw [b1, b2, if_pos rfl, if_neg (by omega), if_neg (by omega), if_neg (by omega)]
    have e2 : ∀ st j, sinceStep u st j (afterOf u x) = st := fun st j => by
      unfold sinceStep; rw [if_pos (show (afterOf u x).f1 = u from rfl), show (afterOf u x).f0 = 3 from rfl, if_neg (show ¬ (3 : Int) = 6 by decide), if_neg (show ¬ ((3 : Int) = 1 ∨ (3 : Int) = 4) by decide), if_neg (show ¬ ((3 : Int) = 5 ∨ (3 : Int) = 7) by decide)]
    rw [e1, e2]
    exact noted_since r (apStep s x) (i + 1 + 1) st
/-- Where a unit's notes begin. -/
def begun (u : Int) : S39 := ⟨1, u, ⟨#[]⟩, false, ⟨#[]⟩⟩
theorem noted_rightN {u : Int} (hu : 1 ≤ u ∧ u ≤ 1000) {r s : List S41} (hs : ∀ y ∈ s, img y = true ∧ y.f1 = true) (hr : r.all img = true) (hl : r.length ≤ 400) : rightN (begun u :: noted u s r) = 0 := by
  refine (rightN_iff _).2 ⟨⟨by rw [List.length_cons, noted_len]; omega, ?_⟩, ?_⟩
  · rw [List.all_cons, noted_vld hu r s hs hr, Bool.and_true]
    unfold vld begun journal_Valid.f
    rw [if_neg (show ¬ (1 : Int) < 1 by decide), if_neg (show ¬ (7 : Int) < 1 by decide), if_neg (show ¬ ((1 : Int) = 2 ∨ (1 : Int) = 3) by decide), if_neg (show ¬ (1 : Int) = 6 by decide)]
    unfold journal_plain.f journal_unit.f
    simp only
    rw [if_pos hu.1]
    simp [hu.2]
  · rw [wrongFrom]
    have : wrongStep ⟨fun _ => none, fun _ => none⟩ (begun u) = .inr ⟨fun v => if v = u then some (fun _ => false) else none, fun _ => none⟩ := by
      unfold wrongStep begun WSt.set
      rw [if_neg (by simp), if_pos rfl]
    rw [this]
    exact noted_right r s (0 + 1) _ ⟨_, if_pos rfl⟩ (fun k o h => by cases h)
theorem noted_asked {u : Int} (hu : 1 ≤ u ∧ u ≤ 1000) {r s : List S41} (hs : ∀ y ∈ s, img y = true ∧ y.f1 = true) (hr : r.all img = true) (hl : r.length ≤ 400) : askedV (begun u :: noted u s r) u = (0, 0) := by
  have h := noted_rightN hu hs hr hl
  rw [← right_eq] at h
  have e : sinceV (begun u :: noted u s r) u = (0, true) := by
    unfold sinceV
    rw [sinceFrom]
    have : sinceStep u (0, false) 0 (begun u) = (0, true) := by
      unfold sinceStep; rw [if_pos (show (begun u).f1 = u from rfl), show (begun u).f0 = 1 from rfl, if_neg (show ¬ (1 : Int) = 6 by decide), if_pos (show (1 : Int) = 1 ∨ (1 : Int) = 4 from .inl rfl)]; rfl
    rw [this, noted_since]
  unfold askedV
  rw [if_pos h, if_pos hu, e, if_pos rfl]
theorem undo_eq {u : Int} (hu : 1 ≤ u ∧ u ≤ 1000) {r s : List S41} (hs : ∀ y ∈ s, img y = true ∧ y.f1 = true) (hr : r.all img = true) (hl : r.length ≤ 400) :
    journal_Undo.f (begun u :: noted u s r) u = some (((noted u s r).foldl (undoStep u) (fun _ => false, [])).2.reverse, 0) := by
  obtain ⟨he, _⟩ := right_cases (begun u :: noted u s r)
  unfold journal_Undo.f
  rw [he, noted_asked hu hs hr hl]
  simp only [Option.bind_some, if_true]
  rw [show ((0 : Int).toNat) = 0 from rfl, List.drop_zero]
  unfold undoAll
  rw [List.foldl_cons, show undoStep u (fun _ => false, []) (begun u) = (fun _ => false, []) by unfold undoStep; rw [if_neg (fun h => absurd (show (1 : Int) = 2 from h.2.1) (by decide))]]
theorem lastOf_append : ∀ (a b : List S41) (k : ByteArray), lastOf (a ++ b) k = (lastOf b k).or (lastOf a k)
  | [], b, k => by rw [List.nil_append]; cases lastOf b k <;> rfl
  | x :: a, b, k => by
    rw [List.cons_append, lastOf, lastOf_append a b k, lastOf]
    cases lastOf b k <;> rfl
theorem lastOf_reverse : ∀ (a : List S41) (k : ByteArray), lastOf a.reverse k = look a k
  | [], _ => rfl
  | x :: a, k => by
    rw [List.reverse_cons, lastOf_append, lastOf_reverse a k, look_cons]
    by_cases h : x.f0 = k
    · rw [if_pos h]; simp only [lastOf, if_pos h, Option.some_or]
    · rw [if_neg h]; simp only [lastOf, if_neg h, Option.none_or]
theorem undo_step {u : Int} {s : List S41} {x : S41} {met : ByteArray → Bool} {out : List S41} :
    undoStep u (undoStep u (met, out) (beforeOf u s x)) (afterOf u x) = if met x.f0 = false then (fun k => if k = x.f0 then true else met k, out ++ [imgOf (beforeOf u s x)]) else (met, out) := by
  obtain ⟨b1, b2, b3⟩ := before_kind u s x
  have h3 : ∀ st, undoStep u st (afterOf u x) = st := fun st => by
    unfold undoStep; rw [if_neg (fun h => absurd (show (3 : Int) = 2 from h.2.1) (by decide))]
  rw [h3]
  unfold undoStep
  rw [b1, b2, b3]
  by_cases hm : met x.f0 = false
  · rw [if_pos ⟨rfl, rfl, hm⟩, if_pos hm]
  · rw [if_neg (fun h => hm h.2.2), if_neg hm]
theorem undo_look {u : Int} : ∀ (r s : List S41), Sorted s → (∀ y ∈ s, y.f1 = true) → ∀ (met : ByteArray → Bool) (out : List S41), (∀ k, met k = (look out k).isSome) → ∀ k,
    after (look ((noted u s r).foldl (undoStep u) (met, out)).2 k) (look (r.foldl apStep s) k) = after (look out k) (look s k)
  | [], _, _, _, _, _, _, _ => rfl
  | x :: r, s, hs, ha, met, out, hm, k => by
    rw [noted, List.foldl_cons, List.foldl_cons, undo_step, List.foldl_cons]
    have ha' : ∀ y ∈ apStep s x, y.f1 = true := fun y hy => by
      rcases apStep_mem hy with hy | ⟨rfl, hf⟩
      · exact ha y hy
      · exact hf
    have hl := look_apStep hs x k
    by_cases hx : met x.f0 = false
    · rw [if_pos hx]
      have hnone : look out x.f0 = none := by have := hm x.f0; rw [hx] at this; exact Option.not_isSome_iff_eq_none.1 (by rw [← this]; decide)
      obtain ⟨_, _, b3⟩ := before_kind u s x
      have hbk : (imgOf (beforeOf u s x)).f0 = x.f0 := b3
      have hlo : ∀ k, look (out ++ [imgOf (beforeOf u s x)]) k = if k = x.f0 then some (imgOf (beforeOf u s x)) else look out k := fun k => by
        rw [look_append, look_cons, hbk]
        by_cases hk : k = x.f0
        · subst hk; rw [hnone, if_pos rfl, if_pos rfl]; rfl
        · rw [if_neg hk, if_neg (Ne.symm hk)]
          show (look out k).or none = _
          rw [Option.or_none]
      rw [undo_look r (apStep s x) (apStep_sorted hs x) ha' _ _ (fun k => by
        rw [hlo k]
        by_cases hk : k = x.f0
        · rw [if_pos hk, if_pos hk]; rfl
        · rw [if_neg hk, if_neg hk]; exact hm k) k, hlo, hl]
      by_cases hk : k = x.f0
      · subst hk
        rw [if_pos rfl, if_pos rfl, hnone]
        show after (some (imgOf (beforeOf u s x))) _ = look s x.f0
        unfold after beforeOf
        cases hls : look s x.f0 with
        | none => rfl
        | some y =>
          obtain ⟨hy, hk⟩ := look_mem hls
          have hf := ha y hy
          obtain ⟨y0, y1, y2⟩ := y
          simp only at hk hf
          subst hf
          simp only [imgOf, if_true]
          rw [← hk]
      · rw [if_neg hk, if_neg hk]
    · rw [if_neg hx]
      rw [undo_look r (apStep s x) (apStep_sorted hs x) ha' _ _ hm k, hl]
      by_cases hk : k = x.f0
      · subst hk
        rw [if_pos rfl]
        cases hz : look out x.f0 with
        | none => have := hm x.f0; rw [hz] at this; exact absurd this hx
        | some z => rfl
      · rw [if_neg hk]
theorem undo_imgs {u : Int} : ∀ (r s : List S41), (∀ y ∈ s, img y = true ∧ y.f1 = true) → r.all img = true → ∀ st : (ByteArray → Bool) × List S41, st.2.all img = true → ((noted u s r).foldl (undoStep u) st).2.all img = true
  | [], _, _, _, _, h => h
  | x :: r, s, hs, hr, (met, out), h => by
    rw [List.all_cons, Bool.and_eq_true] at hr
    rw [noted, List.foldl_cons, List.foldl_cons, undo_step]
    refine undo_imgs r (apStep s x) (fun y hy => ?_) hr.2 _ ?_
    · rcases apStep_mem hy with hy | ⟨rfl, hf⟩
      · exact hs y hy
      · exact ⟨hr.1, hf⟩
    · split
      · simp only [List.all_append, List.all_cons, List.all_nil, Bool.and_true, before_img hs hr.1]
        exact h
      · exact h
/-- P25.4: Undo brings a state back. -/
theorem undone {u : Int} {r s : List S41} (ho : ordV s = true) (hr : r.all img = true) (hf : ordV (r.foldl apStep s) = true) (hl : r.length ≤ 400) :
    journal_Apply.f (r.foldl apStep s) ((noted u s r).foldl (undoStep u) (fun _ => false, [])).2.reverse = some (s, 0) := by
  obtain ⟨hs, ha, h5⟩ := (ordV_iff s).1 ho
  have hs2 := ((ordV_iff _).1 hf).1
  have e : ((noted u s r).foldl (undoStep u) (fun _ => false, [])).2.reverse.foldl apStep (r.foldl apStep s) = s := by
    obtain ⟨h1, h2⟩ := fold_look ((noted u s r).foldl (undoStep u) (fun _ => false, [])).2.reverse _ hs2
    refine sorted_ext h1 hs fun k => ?_
    rw [h2, lastOf_reverse, undo_look r s hs (fun y hy => (ha y hy).2) (fun _ => false) [] (fun _ => rfl) k]
    rfl
  have hlen : ((noted u s r).foldl (undoStep u) (fun _ => false, [])).2.reverse.length ≤ 900000 := by
    have : ∀ (l : List S39) (st : (ByteArray → Bool) × List S41), (l.foldl (undoStep u) st).2.length ≤ st.2.length + l.length := by
      intro l
      induction l with
      | nil => intro st; simp
      | cons n l ih =>
        intro st
        have := ih (undoStep u st n)
        have h2 : (undoStep u st n).2.length ≤ st.2.length + 1 := by unfold undoStep; split <;> simp
        simp only [List.foldl_cons, List.length_cons]; omega
    have := this (noted u s r) (fun _ => false, [])
    rw [noted_len] at this
    simp only [List.length_reverse, List.length_nil] at this ⊢
    omega
  have himg : (((noted u s r).foldl (undoStep u) (fun _ => false, [])).2.reverse).all img = true := by
    rw [List.all_reverse]
    exact undo_imgs r s ha hr _ rfl
  unfold journal_Apply.f
  rw [if_pos hlen, if_pos ⟨hf, himg⟩, e, if_neg (by omega)]
end Go.Proofs.Yteblpjnkinghoaa.J
namespace Go.Proofs.Yteblpjnkinghoaa.J
open Go.RowKit Go.Proofs.YteblpjnkinghoaaW.PrintWords Go.Proofs.YteblpjnkinghoaaW.PrintLast Go.Proofs.YteblpjnkinghoaaW.PrintMore
attribute [local go_sem] max2_int min2_int max_two min_two max_three min_three max_four min_four   -- for this text's walks alone
set_option linter.unusedVariables false
set_option linter.unusedSimpArgs false
/-! ### ringworklaw25_JournalUndone: function 5 -/
mutual
def ringworklaw25_JournalUndone.j0 : Nat → List (S41) → List (S41) → Int → Bool → Option (Bool)
  | 0, _, _, _, _ => none
  | k + 1, x0, x1, x2, x36 => if x36 = true then ((ringworklaw25_awake.f).bind fun t313 => (some t313)) else ((ringworkref25_Apply.f k x0 ([] : List (S41))).bind fun bt314 => (if bt314.2 = 0 then (ringworklaw25_JournalUndone.l0 k x0 x1 x2 bt314.1 (([(⟨1, x2, (⟨#[]⟩ : ByteArray), false, (⟨#[]⟩ : ByteArray)⟩ : S39)] : List (S39))) 0) else ((ringworklaw25_awake.f).bind fun t318 => (some t318))))
def ringworklaw25_JournalUndone.l0 : Nat → List (S41) → List (S41) → Int → List (S41) → List (S39) → Int → Option (Bool)
  | 0, _, _, _, _, _, _ => none
  | k + 1, x0, x1, x2, x7, x9, x10 => if x10 < (x1.length : Int) then (if 0 ≤ x10 then (ringworklaw25_JournalUndone.l1 k x0 x1 x2 x7 x9 x10 0 ((rd_T41 x1 x10).f0) ((rd_T41 x1 x10).f1) ((rd_T41 x1 x10).f2) 2 x2 ((rd_T41 x1 x10).f0) false (⟨#[]⟩ : ByteArray)) else (none)) else ((journal_Undo.f x9 x2).bind fun bt342 => (if bt342.2 = 0 then ((journal_Apply.f x7 bt342.1).bind fun bt346 => (if bt346.2 = 0 then ((ringworkref25_SameImages.f k bt346.1 x0).bind fun t350 => (if t350 = true then ((ringworklaw25_awake.f).bind fun t351 => (some t351)) else (some false))) else (some false))) else (some false)))
def ringworklaw25_JournalUndone.l1 : Nat → List (S41) → List (S41) → Int → List (S41) → List (S39) → Int → Int → ByteArray → Bool → ByteArray → Int → Int → ByteArray → Bool → ByteArray → Option (Bool)
  | 0, _, _, _, _, _, _, _, _, _, _, _, _, _, _, _ => none
  | k + 1, x0, x1, x2, x7, x9, x10, x13, x324000, x324001, x324002, x325000, x325001, x325002, x325003, x325004 => if x13 < (x7.length : Int) then (if 0 ≤ x13 then (if ((rd_T41 x7 x13).f0).toList = x324000.toList then (ringworklaw25_JournalUndone.l1 k x0 x1 x2 x7 x9 x10 (wrap64 (x13 + 1)) x324000 x324001 x324002 x325000 x325001 x325002 true ((rd_T41 x7 x13).f2)) else (ringworklaw25_JournalUndone.l1 k x0 x1 x2 x7 x9 x10 (wrap64 (x13 + 1)) x324000 x324001 x324002 x325000 x325001 x325002 x325003 x325004)) else (none)) else ((some (([(⟨x325000, x325001, x325002, x325003, x325004⟩ : S39), (⟨3, x2, x324000, x324001, x324002⟩ : S39)] : List (S39)) : List (S39))).bind fun y327 => (if x9.length + y327.length < 2513169434916 then ((journal_Apply.f x7 (([(⟨x324000, x324001, x324002⟩ : S41)] : List (S41)))).bind fun bt336 => (if bt336.2 = 0 then (ringworklaw25_JournalUndone.l0 k x0 x1 x2 bt336.1 (x9 ++ y327) (wrap64 (x10 + 1))) else (if bt336.2 = 1 then ((ringworklaw25_awake.f).bind fun t340 => (some t340)) else (if bt336.2 = 4 then ((ringworklaw25_awake.f).bind fun t341 => (some t341)) else (some false))))) else (none)))
end
def ringworklaw25_JournalUndone.f (k : Nat) (l0 : List (S41)) (l1 : List (S41)) (a2 : Int) : Option (Bool) := (ringworklaw25_Images.f k l0).bind fun t311 => (if t311 = true then ((ringworklaw25_Images.f k l1).bind fun t312 => (if t312 = true then (if (l1.length : Int) > 25 then (ringworklaw25_JournalUndone.j0 k l0 l1 a2 true) else (if a2 < 1 then (ringworklaw25_JournalUndone.j0 k l0 l1 a2 true) else (ringworklaw25_JournalUndone.j0 k l0 l1 a2 (decide (a2 > 1000))))) else (ringworklaw25_JournalUndone.j0 k l0 l1 a2 true))) else (ringworklaw25_JournalUndone.j0 k l0 l1 a2 true))
def ringworklaw25_JournalUndone.T15 : Bool × List (List Nat × List Nat) := (true, [([], []), ([], []), ([0, 1], [0, 1]), ([2], [2]), ([3], [3]), ([], []), ([5], [5]), ([4, 6], [4, 6])])
def ringworklaw25_JournalUndone.B15 : List Nat := [0, 0, 3, 7, 15, 0, 32, 127]
theorem ringworklaw25_JournalUndone.tab15 : rtab .any (opsOf Try.f5 15) = ringworklaw25_JournalUndone.T15 := by kernel_rfl
theorem ringworklaw25_JournalUndone.bits15 : waitsOk ringworklaw25_JournalUndone.T15.2 ringworklaw25_JournalUndone.B15 = true := by kernel_rfl
def ringworklaw25_JournalUndone.T16 : Bool × List (List Nat × List Nat) := (true, [([], []), ([], []), ([0, 1], [0, 1]), ([2], [2]), ([3], [3]), ([], []), ([5], [5]), ([0, 1, 2, 3, 4, 5, 6], []), ([7, 4, 6, 0, 1, 2, 3, 4, 5, 6], [4, 7])])
def ringworklaw25_JournalUndone.B16 : List Nat := [0, 0, 3, 7, 15, 0, 32, 127, 255]
theorem ringworklaw25_JournalUndone.tab16 : rtab .any (opsOf Try.f5 16) = ringworklaw25_JournalUndone.T16 := by kernel_rfl
theorem ringworklaw25_JournalUndone.bits16 : waitsOk ringworklaw25_JournalUndone.T16.2 ringworklaw25_JournalUndone.B16 = true := by kernel_rfl
set_option maxHeartbeats 8000000 in
set_option maxRecDepth 100000 in
theorem ringworklaw25_JournalUndone.calls (k : Nat) (A0 : Option Addr) (c0 : Nat) (l0 : List (S41)) (A1 : Option Addr) (c1 : Nat) (l1 : List (S41)) (a2 : Int) (r : Bool) (w : World) (hr0 : Kd.C k41 w A0 l0.length l0) (hc0 : l0.length ≤ c0) (hr1 : Kd.C k41 w A1 l1.length l1) (hc1 : l1.length ≤ c1) (h : ringworklaw25_JournalUndone.f k l0 l1 a2 = some r) :
    Calls Try.prog 5 #[.slice A0 l0.length c0, .slice A1 l1.length c1, .int .i64 a2] w fun e w' => e = .returned (.bool r) ∧ Below w.heap.size w w' := by
  have hu39 := Try.underlying39
  have hu41 := Try.underlying41
  have HR0 := Aside0.mk hr0
  have HC0 := Aside0.mk hc0
  clear hr0 hc0
  have HR1 := Aside0.mk hr1
  have HC1 := Aside0.mk hc1
  clear hr1 hc1
  have HB := Aside0.mk (Below.refl w.heap.size w)
  have H : ((ringworklaw25_Images.f k l0).bind fun t311 => (if t311 = true then ((ringworklaw25_Images.f k l1).bind fun t312 => (if t312 = true then (if (l1.length : Int) > 25 then (ringworklaw25_JournalUndone.j0 k l0 l1 a2 true) else (if a2 < 1 then (ringworklaw25_JournalUndone.j0 k l0 l1 a2 true) else (ringworklaw25_JournalUndone.j0 k l0 l1 a2 (decide (a2 > 1000))))) else (ringworklaw25_JournalUndone.j0 k l0 l1 a2 true))) else (ringworklaw25_JournalUndone.j0 k l0 l1 a2 true))) = some r := h
  clear h
  have HC4 := Aside0.mk H
  clear H
  go_enter Try.func5, Try.ntmps5
  go_upto_region 1 with (fail)
  go_cut [36] (fun v36 wc => ∃ (kq : Nat) (x36_3 : Bool), v36 = .bool x36_3 ∧ Aside0 (ringworklaw25_JournalUndone.j0 kq l0 l1 a2 x36_3 = some r) ∧ Aside0 (kq ≤ k) ∧ Aside0 (Below w.heap.size w wc))
  case first =>
    have H := HC4.out
    clear HC4
    replace H := Option.bind_eq_some_iff.mp H
    obtain ⟨t311, A50, H⟩ := H
    replace H : (if t311 = true then ((ringworklaw25_Images.f k l1).bind fun t312 => (if t312 = true then (if (l1.length : Int) > 25 then (ringworklaw25_JournalUndone.j0 k l0 l1 a2 true) else (if a2 < 1 then (ringworklaw25_JournalUndone.j0 k l0 l1 a2 true) else (ringworklaw25_JournalUndone.j0 k l0 l1 a2 (decide (a2 > 1000))))) else (ringworklaw25_JournalUndone.j0 k l0 l1 a2 true))) else (ringworklaw25_JournalUndone.j0 k l0 l1 a2 true)) = some r := H
    have A5 := Aside0.mk A50
    clear A50
    by_cases c6 : t311 = true
    · subst c6
      have H1 : ((ringworklaw25_Images.f k l1).bind fun t312 => (if t312 = true then (if (l1.length : Int) > 25 then (ringworklaw25_JournalUndone.j0 k l0 l1 a2 true) else (if a2 < 1 then (ringworklaw25_JournalUndone.j0 k l0 l1 a2 true) else (ringworklaw25_JournalUndone.j0 k l0 l1 a2 (decide (a2 > 1000))))) else (ringworklaw25_JournalUndone.j0 k l0 l1 a2 true))) = some r := by rw [if_pos rfl] at H; exact H
      clear H
      have H := H1
      clear H1
      replace H := Option.bind_eq_some_iff.mp H
      obtain ⟨t312, A70, H⟩ := H
      replace H : (if t312 = true then (if (l1.length : Int) > 25 then (ringworklaw25_JournalUndone.j0 k l0 l1 a2 true) else (if a2 < 1 then (ringworklaw25_JournalUndone.j0 k l0 l1 a2 true) else (ringworklaw25_JournalUndone.j0 k l0 l1 a2 (decide (a2 > 1000))))) else (ringworklaw25_JournalUndone.j0 k l0 l1 a2 true)) = some r := H
      have A7 := Aside0.mk A70
      clear A70
      by_cases c8 : t312 = true
      · subst c8
        have H1 : (if (l1.length : Int) > 25 then (ringworklaw25_JournalUndone.j0 k l0 l1 a2 true) else (if a2 < 1 then (ringworklaw25_JournalUndone.j0 k l0 l1 a2 true) else (ringworklaw25_JournalUndone.j0 k l0 l1 a2 (decide (a2 > 1000))))) = some r := by rw [if_pos rfl] at H; exact H
        clear H
        have H := H1
        clear H1
        by_cases c9 : (l1.length : Int) > 25
        · rw [if_pos c9] at H
          have c9b0 : decide (25 < (l1.length : Int)) = true := decide_eq_true c9
          have c9b1 : decide (25 < l1.length) = true := decide_eq_true (by omega)
          clear c9
          (first | rw [c9b0] | (simp only [i64_w, i32_w]; rw [c9b0]) | skip)
          have H' := Aside0.mk H
          clear H
          go_wp2_with (first | ((with_reducible refine gate_callee (f := 11) rfl ?_); refine goesL_ (some 17) rfl rfl Try.func11 (by kernel_rfl) rfl #[.slice A0 l0.length c0] rfl (by (try simp only [List.map_toArray, List.map_cons, List.map_nil]); first | done | rfl | (simp only [List.length_drop, List.length_take]; rfl)) ?_; (with_reducible refine (ringworklaw25_Images.calls k _ _ l0 true _ ?side1 ?side2 A5.out).mono ?_); (case side1 => repeat (first | exact (Kd.C_below HR0.out HB.out) | (with_reducible refine Kd.C_alloc ?_ _) | (with_reducible refine Kd.C_drewN ?_ _) | (with_reducible refine Kd.C_drew ?_))); (case side2 => exact HC0.out); rintro e w' ⟨rfl, ⟨nd, rfl⟩⟩; refine ⟨_, rfl, ?_⟩) | (go_at_call 11; (with_reducible refine (ringworklaw25_Images.calls k _ _ l1 true _ ?side1 ?side2 A7.out).mono ?_); (case side1 => repeat (first | exact (Kd.C_below HR1.out (by repeat (first | (with_reducible first | exact HB.out | apply below_alloc | apply pw_below_drewN | apply below_drew1) | exact HB.out))) | (with_reducible refine Kd.C_alloc ?_ _) | (with_reducible refine Kd.C_drewN ?_ _) | (with_reducible refine Kd.C_drew ?_))); (case side2 => exact HC1.out); rintro e w' ⟨rfl, ⟨nd, rfl⟩⟩))
          go_meet
          case rel => exact ⟨_, (true), (by first | rfl | (simp; done) | (simp [*]; done)), H', ⟨by first | omega | exact Nat.le_refl _⟩, ⟨by repeat (first | (with_reducible first | exact HB.out | apply below_alloc | apply pw_below_drewN | apply below_drew1) | exact HB.out)⟩⟩
        · rw [if_neg c9] at H
          have c9b0 : decide (25 < (l1.length : Int)) = false := decide_eq_false c9
          have c9b1 : decide (25 < l1.length) = false := decide_eq_false (by omega)
          clear c9
          (first | rw [c9b0] | (simp only [i64_w, i32_w]; rw [c9b0]) | skip)
          by_cases c10 : a2 < 1
          · rw [if_pos c10] at H
            have c10b0 : decide (a2 < 1) = true := decide_eq_true c10
            clear c10
            have H' := Aside0.mk H
            clear H
            go_wp2_with (first | ((with_reducible refine gate_callee (f := 11) rfl ?_); refine goesL_ (some 17) rfl rfl Try.func11 (by kernel_rfl) rfl #[.slice A0 l0.length c0] rfl (by (try simp only [List.map_toArray, List.map_cons, List.map_nil]); first | done | rfl | (simp only [List.length_drop, List.length_take]; rfl)) ?_; (with_reducible refine (ringworklaw25_Images.calls k _ _ l0 true _ ?side1 ?side2 A5.out).mono ?_); (case side1 => repeat (first | exact (Kd.C_below HR0.out HB.out) | (with_reducible refine Kd.C_alloc ?_ _) | (with_reducible refine Kd.C_drewN ?_ _) | (with_reducible refine Kd.C_drew ?_))); (case side2 => exact HC0.out); rintro e w' ⟨rfl, ⟨nd, rfl⟩⟩; refine ⟨_, rfl, ?_⟩) | (go_at_call 11; (with_reducible refine (ringworklaw25_Images.calls k _ _ l1 true _ ?side1 ?side2 A7.out).mono ?_); (case side1 => repeat (first | exact (Kd.C_below HR1.out (by repeat (first | (with_reducible first | exact HB.out | apply below_alloc | apply pw_below_drewN | apply below_drew1) | exact HB.out))) | (with_reducible refine Kd.C_alloc ?_ _) | (with_reducible refine Kd.C_drewN ?_ _) | (with_reducible refine Kd.C_drew ?_))); (case side2 => exact HC1.out); rintro e w' ⟨rfl, ⟨nd, rfl⟩⟩))
            go_meet
            case rel => exact ⟨_, (true), (by first | rfl | (simp; done) | (simp [*]; done)), H', ⟨by first | omega | exact Nat.le_refl _⟩, ⟨by repeat (first | (with_reducible first | exact HB.out | apply below_alloc | apply pw_below_drewN | apply below_drew1) | exact HB.out)⟩⟩
          · rw [if_neg c10] at H
            have c10b0 : decide (a2 < 1) = false := decide_eq_false c10
            clear c10
            have H' := Aside0.mk H
            clear H
            go_wp2_with (first | ((with_reducible refine gate_callee (f := 11) rfl ?_); refine goesL_ (some 17) rfl rfl Try.func11 (by kernel_rfl) rfl #[.slice A0 l0.length c0] rfl (by (try simp only [List.map_toArray, List.map_cons, List.map_nil]); first | done | rfl | (simp only [List.length_drop, List.length_take]; rfl)) ?_; (with_reducible refine (ringworklaw25_Images.calls k _ _ l0 true _ ?side1 ?side2 A5.out).mono ?_); (case side1 => repeat (first | exact (Kd.C_below HR0.out HB.out) | (with_reducible refine Kd.C_alloc ?_ _) | (with_reducible refine Kd.C_drewN ?_ _) | (with_reducible refine Kd.C_drew ?_))); (case side2 => exact HC0.out); rintro e w' ⟨rfl, ⟨nd, rfl⟩⟩; refine ⟨_, rfl, ?_⟩) | (go_at_call 11; (with_reducible refine (ringworklaw25_Images.calls k _ _ l1 true _ ?side1 ?side2 A7.out).mono ?_); (case side1 => repeat (first | exact (Kd.C_below HR1.out (by repeat (first | (with_reducible first | exact HB.out | apply below_alloc | apply pw_below_drewN | apply below_drew1) | exact HB.out))) | (with_reducible refine Kd.C_alloc ?_ _) | (with_reducible refine Kd.C_drewN ?_ _) | (with_reducible refine Kd.C_drew ?_))); (case side2 => exact HC1.out); rintro e w' ⟨rfl, ⟨nd, rfl⟩⟩))
            go_meet
            case rel => exact ⟨_, (decide (a2 > 1000)), (by first | rfl | (simp; done) | (simp [*]; done)), H', ⟨by first | omega | exact Nat.le_refl _⟩, ⟨by repeat (first | (with_reducible first | exact HB.out | apply below_alloc | apply pw_below_drewN | apply below_drew1) | exact HB.out)⟩⟩
      · replace c8 := Bool.eq_false_iff.mpr c8
        subst c8
        have H1 : (ringworklaw25_JournalUndone.j0 k l0 l1 a2 true) = some r := by rw [if_neg (show ¬ (false = true) by decide)] at H; exact H
        clear H
        have H := H1
        clear H1
        have H' := Aside0.mk H
        clear H
        go_wp2_with (first | ((with_reducible refine gate_callee (f := 11) rfl ?_); refine goesL_ (some 17) rfl rfl Try.func11 (by kernel_rfl) rfl #[.slice A0 l0.length c0] rfl (by (try simp only [List.map_toArray, List.map_cons, List.map_nil]); first | done | rfl | (simp only [List.length_drop, List.length_take]; rfl)) ?_; (with_reducible refine (ringworklaw25_Images.calls k _ _ l0 true _ ?side1 ?side2 A5.out).mono ?_); (case side1 => repeat (first | exact (Kd.C_below HR0.out HB.out) | (with_reducible refine Kd.C_alloc ?_ _) | (with_reducible refine Kd.C_drewN ?_ _) | (with_reducible refine Kd.C_drew ?_))); (case side2 => exact HC0.out); rintro e w' ⟨rfl, ⟨nd, rfl⟩⟩; refine ⟨_, rfl, ?_⟩) | (go_at_call 11; (with_reducible refine (ringworklaw25_Images.calls k _ _ l1 false _ ?side1 ?side2 A7.out).mono ?_); (case side1 => repeat (first | exact (Kd.C_below HR1.out (by repeat (first | (with_reducible first | exact HB.out | apply below_alloc | apply pw_below_drewN | apply below_drew1) | exact HB.out))) | (with_reducible refine Kd.C_alloc ?_ _) | (with_reducible refine Kd.C_drewN ?_ _) | (with_reducible refine Kd.C_drew ?_))); (case side2 => exact HC1.out); rintro e w' ⟨rfl, ⟨nd, rfl⟩⟩))
        go_meet
        case rel => exact ⟨_, (true), (by first | rfl | (simp; done) | (simp [*]; done)), H', ⟨by first | omega | exact Nat.le_refl _⟩, ⟨by repeat (first | (with_reducible first | exact HB.out | apply below_alloc | apply pw_below_drewN | apply below_drew1) | exact HB.out)⟩⟩
    · replace c6 := Bool.eq_false_iff.mpr c6
      subst c6
      have H1 : (ringworklaw25_JournalUndone.j0 k l0 l1 a2 true) = some r := by rw [if_neg (show ¬ (false = true) by decide)] at H; exact H
      clear H
      have H := H1
      clear H1
      have H' := Aside0.mk H
      clear H
      go_wp2_with (first | ((with_reducible refine gate_callee (f := 11) rfl ?_); refine goesL_ (some 17) rfl rfl Try.func11 (by kernel_rfl) rfl #[.slice A0 l0.length c0] rfl (by (try simp only [List.map_toArray, List.map_cons, List.map_nil]); first | done | rfl | (simp only [List.length_drop, List.length_take]; rfl)) ?_; (with_reducible refine (ringworklaw25_Images.calls k _ _ l0 false _ ?side1 ?side2 A5.out).mono ?_); (case side1 => repeat (first | exact (Kd.C_below HR0.out HB.out) | (with_reducible refine Kd.C_alloc ?_ _) | (with_reducible refine Kd.C_drewN ?_ _) | (with_reducible refine Kd.C_drew ?_))); (case side2 => exact HC0.out); rintro e w' ⟨rfl, ⟨nd, rfl⟩⟩; refine ⟨_, rfl, ?_⟩))
      go_meet
      case rel => exact ⟨_, (true), (by first | rfl | (simp; done) | (simp [*]; done)), H', ⟨by first | omega | exact Nat.le_refl _⟩, ⟨by repeat (first | (with_reducible first | exact HB.out | apply below_alloc | apply pw_below_drewN | apply below_drew1) | exact HB.out)⟩⟩
  case rest =>
    clear HC4
    try clear c1
    try clear p2
    try clear c5
    try clear c6
    try clear c8
    try clear c9
    try clear c9b0
    try clear c9b1
    try clear c10
    try clear c10b0
    obtain ⟨kq, x36_3, rfl, HA, HJ3, HB⟩ := hcut
    cases kq with
    | zero => exact absurd HA.out (by simp [ringworklaw25_JournalUndone.j0])
    | succ kj3 =>
      have H := HA.out
      clear HA
      simp only [ringworklaw25_JournalUndone.j0] at H
      by_cases c11 : x36_3 = true
      · subst c11
        have H1 : ((ringworklaw25_awake.f).bind fun t313 => (some t313)) = some r := by rw [if_pos rfl] at H; exact H
        clear H
        have H := H1
        clear H1
        replace H := Option.bind_eq_some_iff.mp H
        obtain ⟨t313, A120, H⟩ := H
        replace H : (some t313) = some r := H
        have A12 := Aside0.mk A120
        clear A120
        obtain rfl := Option.some.inj H
        go_wp2_with (first | ((with_reducible refine gate_callee (f := 12) rfl ?_); refine goesL_ (some 37) rfl rfl Try.func12 (by kernel_rfl) rfl #[] rfl (by (try simp only [List.map_toArray, List.map_cons, List.map_nil]); first | done | rfl | (simp only [List.length_drop, List.length_take]; rfl)) ?_; (with_reducible refine (ringworklaw25_awake.calls  t313 _ A12.out).mono ?_); rintro e w13 ⟨rfl, hb⟩; refine ⟨_, rfl, ?_⟩; have n0_ := Aside0.mk (below_step (by repeat (first | (with_reducible first | exact HB.out | apply below_alloc | apply pw_below_drewN | apply below_drew1) | exact HB.out)) hb); clear HB; have HB := n0_; clear n0_; (try clear hb); (try clear hb2); (try clear hk); (try clear hi)))
        go_ret
        exact ⟨by first | rfl | (simp [errW_none, errW_some] <;> rfl) | (simp [*, errW_none, errW_some] <;> rfl), by repeat (first | (with_reducible first | exact HB.out | apply below_alloc | apply pw_below_drewN | apply below_drew1) | exact HB.out)⟩
      · replace c11 := Bool.eq_false_iff.mpr c11
        subst c11
        have H1 : ((ringworkref25_Apply.f kj3 l0 ([] : List (S41))).bind fun bt314 => (if bt314.2 = 0 then (ringworklaw25_JournalUndone.l0 kj3 l0 l1 a2 bt314.1 (([(⟨1, a2, (⟨#[]⟩ : ByteArray), false, (⟨#[]⟩ : ByteArray)⟩ : S39)] : List (S39))) 0) else ((ringworklaw25_awake.f).bind fun t318 => (some t318)))) = some r := by rw [if_neg (show ¬ (false = true) by decide)] at H; exact H
        clear H
        have H := H1
        clear H1
        replace H := Option.bind_eq_some_iff.mp H
        obtain ⟨⟨t314, t315⟩, A140, H⟩ := H
        replace H : (if t315 = 0 then (ringworklaw25_JournalUndone.l0 kj3 l0 l1 a2 t314 (([(⟨1, a2, (⟨#[]⟩ : ByteArray), false, (⟨#[]⟩ : ByteArray)⟩ : S39)] : List (S39))) 0) else ((ringworklaw25_awake.f).bind fun t318 => (some t318))) = some r := H
        have A14 := Aside0.mk A140
        clear A140
        by_cases c15 : t315 = 0
        · rw [if_pos c15] at H
          have c15b0 : (t315 == 0) = true := beq_iff_eq.mpr c15
          have c15b1 : (t315 != 0) = false := bne_eq_false_iff_eq.mpr c15
          clear c15
          obtain ⟨y319, hy319⟩ : ∃ y_ : List (S39), y_ = (([(⟨1, a2, (⟨#[]⟩ : ByteArray), false, (⟨#[]⟩ : ByteArray)⟩ : S39)] : List (S39))) := ⟨_, rfl⟩
          replace H : (ringworklaw25_JournalUndone.l0 kj3 l0 l1 a2 t314 y319 0) = some r := by first | (rw [hy319]; with_reducible exact H) | (have H2_ := (Option.bind_some _ _).symm.trans H; rw [hy319]; with_reducible exact H2_) | (have H2_ := (Option.bind_some _ _).symm.trans H; with_reducible exact H2_) | with_reducible exact H | (rw [hy319]; exact H) | exact H
          have Ny319 := Aside0.mk hy319
          clear hy319
          have H' := Aside0.mk H
          clear H
          go_wp2_with (first | ((with_reducible refine gate_callee (f := 21) rfl ?_); refine goesL_ (some 40) rfl rfl Try.func21 (by kernel_rfl) rfl #[.slice A0 l0.length c0, .slice none 0 0] rfl (by (try simp only [List.map_toArray, List.map_cons, List.map_nil]); first | done | rfl | (simp only [List.length_drop, List.length_take]; rfl)) ?_; (refine (ringworkref25_Apply.calls kj3 _ _ l0 _ _ ([] : List (S41)) t314 t315 _ ?side1 ?side2 ?side3 ?side4 A14.out).mono ?_); (case side1 => repeat (first | exact (Kd.C_below HR0.out HB.out) | (with_reducible refine Kd.C_alloc ?_ _) | (with_reducible refine Kd.C_drewN ?_ _) | (with_reducible refine Kd.C_drew ?_))); (case side2 => exact HC0.out); (case side3 => exact Kd.C_nil _ _); (case side4 => exact Nat.le_refl _); rintro e w16 ⟨v316, rfl, ho0, hb⟩; refine ⟨_, rfl, ?_⟩; have n0_ := Aside0.mk (Kd.R_lower ho0 (below_size (by repeat (first | (with_reducible first | exact HB.out | apply below_alloc | apply pw_below_drewN | apply below_drew1) | exact HB.out)))); have n1_ := Aside0.mk (below_step (by repeat (first | (with_reducible first | exact HB.out | apply below_alloc | apply pw_below_drewN | apply below_drew1) | exact HB.out)) hb); clear HB; have HO317 := n0_; have HB := n1_; clear n0_ n1_; (try clear hb); (try clear hb2); (try clear hk); (try clear hi); (try clear ho0)) | ((with_reducible refine gate_dst (N := 48) rfl ?_); (try (refine gate_guard (by rfl) ?_; dsimp only)); refine Kd.R_lit k39 _ 39 ?hg (N := 48) ?hd (xs := ([(⟨1, a2, (⟨#[]⟩ : ByteArray), false, (⟨#[]⟩ : ByteArray)⟩ : S39)] : List (S39))) (inner := [.int .i64 1, .int .i64 a2, .string (⟨#[]⟩ : ByteArray), .bool false, .string (⟨#[]⟩ : ByteArray)]) (ok := fun _ => True) (okp := fun _ => True) ?hr ?hp (fun _ hk => hk) trivial (Below.refl _ _) (Nat.le_refl _) (by simp) ?_; (case hd => rfl); (case hg => rfl); (case hr => first | (go_simp; done) | (go_simp; rfl)); (case hp => exact (Reps.c5 (show Kd.M k39 _ _ _ (⟨1, a2, (⟨#[]⟩ : ByteArray), false, (⟨#[]⟩ : ByteArray)⟩ : S39) [.int .i64 1, .int .i64 a2, .string (⟨#[]⟩ : ByteArray), .bool false, .string (⟨#[]⟩ : ByteArray)] from (k39_mkM _ _ _ (⟨1, a2, (⟨#[]⟩ : ByteArray), false, (⟨#[]⟩ : ByteArray)⟩ : S39) )) (Reps.none _ _))); intro v320 w17 ho18 hb hg_ hnew_; clear hg_ hnew_; (first | rw [← Ny319.out] at ho18 | (simp only [Int.reduceToNat] at ho18; rw [← Ny319.out] at ho18)); have n0_ := Aside0.mk (Kd.R_below (by (with_reducible repeat (first | apply Kd.R_alloc | apply Kd.R_drewN | apply Kd.R_drew)); exact HO317.out) hb); have n1_ := Aside0.mk (Kd.R_lower ho18 (below_size (by repeat (first | (with_reducible first | exact HB.out | apply below_alloc | apply pw_below_drewN | apply below_drew1) | exact HB.out)))); have n2_ := Aside0.mk (below_step (by repeat (first | (with_reducible first | exact HB.out | apply below_alloc | apply pw_below_drewN | apply below_drew1) | exact HB.out)) hb); clear HO317; clear HB; have HO317 := n0_; have HO321 := n1_; have HB := n2_; clear n0_ n1_ n2_; clear hb ho18))
          go_loopg [7, 9, 10] kj3 (fun kq v7 v9 v10 w' => ∃ (x7_2 : List (S41)) (x9_2 : List (S39)) (x10_2 : Int), v10 = .int .i64 x10_2 ∧ Aside0 (ringworklaw25_JournalUndone.l0 kq l0 l1 a2 x7_2 x9_2 x10_2 = some r) ∧ Aside0 (kq ≤ kj3) ∧ Aside0 (Kd.R k41 41 w' w.heap.size (fun _ => True) v7 x7_2) ∧ Aside0 (Kd.R k39 39 w' w.heap.size (fun _ => True) v9 x9_2) ∧ Aside0 (Below w.heap.size w w'))
          case atStart => exact ⟨(t314), (y319), (0), (by first | rfl | (simp; done) | (simp [*]; done)), H', ⟨Nat.le_refl _⟩, ⟨by (with_reducible repeat (first | apply Kd.R_alloc | apply Kd.R_drewN | apply Kd.R_drew)); exact HO317.out⟩, ⟨by (with_reducible repeat (first | apply Kd.R_alloc | apply Kd.R_drewN | apply Kd.R_drew)); exact HO321.out⟩, ⟨by repeat (first | (with_reducible first | exact HB.out | apply below_alloc | apply pw_below_drewN | apply below_drew1) | exact HB.out)⟩⟩
          case round =>
            clear H'
            try clear c1
            try clear c2
            try clear p2
            try clear c5
            try clear c6
            try clear c8
            try clear c9
            try clear c9b0
            try clear c9b1
            try clear c10
            try clear c10b0
            try clear c11
            try clear c12
            try clear c15
            try clear c15b0
            try clear c15b1
            try clear p2
            obtain ⟨x7_2, x9_2, x10_2, rfl, HA, HK2, HO_7, HO_9, HB⟩ := hrel
            cases gk with
            | zero => exact absurd HA.out (by simp [ringworklaw25_JournalUndone.l0])
            | succ k2 =>
              have H := HA.out
              clear HA
              simp only [ringworklaw25_JournalUndone.l0] at H
              by_cases c19 : x10_2 < (l1.length : Int)
              · rw [if_pos c19] at H
                have c19b0 : decide (x10_2 < (l1.length : Int)) = true := decide_eq_true c19
                clear c19
                by_cases c20 : 0 ≤ x10_2
                · rw [if_pos c20] at H
                  have c20b0 : decide (0 ≤ x10_2) = true := decide_eq_true c20
                  clear c20
                  have H' := Aside0.mk H
                  clear H
                  have p322 : 0 ≤ (x10_2 : Int) := of_decide_eq_true (by first | (with_reducible assumption) | assumption)
                  have q322 : x10_2 < (l1.length : Int) := of_decide_eq_true (by first | (with_reducible assumption) | assumption)
                  obtain ⟨ad322, e322, hx322_0, hx322_1, hx322_2⟩ := at_T41 HR1.out x10_2 p322 q322
                  cases e322
                  replace hx322_0 := (HB.out.cell (World.block_lt_of_cell? w _ hx322_0)).trans hx322_0
                  replace hx322_1 := (HB.out.cell (World.block_lt_of_cell? w _ hx322_1)).trans hx322_1
                  replace hx322_2 := (HB.out.cell (World.block_lt_of_cell? w _ hx322_2)).trans hx322_2
                  replace p322 := eq_true p322
                  replace q322 := eq_true q322
                  go_wp2_with (first | ((with_reducible refine gate_dst (N := 11) rfl ?_); (try (refine gate_guard (by rfl) ?_; dsimp only)); refine box_event ?hg (N := 11) ?hd (cs := #[.string (⟨#[]⟩ : ByteArray), .bool false, .string (⟨#[]⟩ : ByteArray)]) (t := 41) ?hr ?_; (case hd => rfl); (case hg => rfl); (case hr => first | (go_simp; done) | (go_simp; rfl)); intro gb323 hg w21 hbox hb; have n0_ := Aside0.mk (Kd.R_below (Kd.R_elderB (by (with_reducible repeat (first | apply Kd.R_alloc | apply Kd.R_drewN | apply Kd.R_drew)); exact HO_7.out) gb323 (Nat.le_of_eq hg.symm)) hb); have n1_ := Aside0.mk (Kd.R_below (by (with_reducible repeat (first | apply Kd.R_alloc | apply Kd.R_drewN | apply Kd.R_drew)); exact HO_9.out) hb); have n2_ := Aside0.mk (below_step (by repeat (first | (with_reducible first | exact HB.out | apply below_alloc | apply pw_below_drewN | apply below_drew1) | exact HB.out)) hb); have n3_ := Aside0.mk (hbox); have n4_ := Aside0.mk ((by rw [hg]; exact (below_size (by repeat (first | (with_reducible first | exact HB.out | apply below_alloc | apply pw_below_drewN | apply below_drew1) | exact HB.out))) : w.heap.size ≤ gb323)); have n5_ := Aside0.mk ((by rw [hg]; exact (below_size (by repeat (first | (with_reducible first | exact HB.out | apply below_alloc | apply pw_below_drewN | apply below_drew1) | exact HB.out))) : w.heap.size ≤ gb323)); clear HO_7; clear HO_9; clear HB; have HO_7 := n0_; have HO_9 := n1_; have HB := n2_; have BK323 := n3_; have GW323 := n4_; have GE323 := n5_; clear n0_ n1_ n2_ n3_ n4_ n5_; clear hb hbox hg; have hcz22_0 : w21.cell? ⟨gb323, 0, none⟩ = some (.string (⟨#[]⟩ : ByteArray)) := (blk_cell BK323.out 0).trans rfl; have hcz22_1 : w21.cell? ⟨gb323, 1, none⟩ = some (.bool false) := (blk_cell BK323.out 1).trans rfl; have hcz22_2 : w21.cell? ⟨gb323, 2, none⟩ = some (.string (⟨#[]⟩ : ByteArray)) := (blk_cell BK323.out 2).trans rfl; have hfz22_0 := blk_frozen BK323.out 0; have hfz22_1 := blk_frozen BK323.out 1; have hfz22_2 := blk_frozen BK323.out 2) | ((with_reducible refine gate_dst (N := 12) rfl ?_); (try (refine gate_guard (by rfl) ?_; dsimp only)); refine box_event ?hg (N := 12) ?hd (cs := #[.int .i64 0, .int .i64 0, .string (⟨#[]⟩ : ByteArray), .bool false, .string (⟨#[]⟩ : ByteArray)]) (t := 39) ?hr ?_; (case hd => rfl); (case hg => rfl); (case hr => first | (go_simp; done) | (go_simp; rfl)); intro gb324 hg w23 hbox hb; have n0_ := Aside0.mk (Kd.R_below (by (with_reducible repeat (first | apply Kd.R_alloc | apply Kd.R_drewN | apply Kd.R_drew)); exact (Kd.R_mono (Kd.R_far (p := ⟨gb323, 2, none⟩) (Kd.R_far (p := ⟨gb323, 1, none⟩) (Kd.R_far (p := ⟨gb323, 0, none⟩) (Kd.R_mono HO_7.out (fun k_ hk => (⟨hk, hk.2⟩ : _ ∧ k_ ≠ gb323))) (fun _ hk => hk.2) (.string ((rd_T41 l1 x10_2).f0))) (fun _ hk => hk.2) (.bool ((rd_T41 l1 x10_2).f1))) (fun _ hk => hk.2) (.string ((rd_T41 l1 x10_2).f2))) (fun _ h_ => h_.1))) hb); have n1_ := Aside0.mk (Kd.R_below (Kd.R_elderB (by (with_reducible repeat (first | apply Kd.R_alloc | apply Kd.R_drewN | apply Kd.R_drew)); exact (Kd.R_mono (Kd.R_far (p := ⟨gb323, 2, none⟩) (Kd.R_far (p := ⟨gb323, 1, none⟩) (Kd.R_far (p := ⟨gb323, 0, none⟩) (Kd.R_types HO_9.out BK323.out (by decide)) (fun _ hk => hk.2) (.string ((rd_T41 l1 x10_2).f0))) (fun _ hk => hk.2) (.bool ((rd_T41 l1 x10_2).f1))) (fun _ hk => hk.2) (.string ((rd_T41 l1 x10_2).f2))) (fun _ h_ => h_.1))) gb324 (Nat.le_of_eq hg.symm)) hb); have n2_ := Aside0.mk (blk_below (g := gb323) (o := .cells #[.string ((rd_T41 l1 x10_2).f0), .bool ((rd_T41 l1 x10_2).f1), .string ((rd_T41 l1 x10_2).f2)] 41 (0, 0)) (by (with_reducible repeat (first | refine blk_drewN ?_ _ | refine blk_drew ?_ | refine blk_alloc ?_ _)); refine blk_put (cs := #[.string ((rd_T41 l1 x10_2).f0), .bool ((rd_T41 l1 x10_2).f1), .string (⟨#[]⟩ : ByteArray)]) ?_ 2 _ rfl; (with_reducible repeat (first | refine blk_drewN ?_ _ | refine blk_drew ?_ | refine blk_alloc ?_ _)); refine blk_put (cs := #[.string ((rd_T41 l1 x10_2).f0), .bool false, .string (⟨#[]⟩ : ByteArray)]) ?_ 1 _ rfl; (with_reducible repeat (first | refine blk_drewN ?_ _ | refine blk_drew ?_ | refine blk_alloc ?_ _)); refine blk_put (cs := #[.string (⟨#[]⟩ : ByteArray), .bool false, .string (⟨#[]⟩ : ByteArray)]) ?_ 0 _ rfl; (with_reducible repeat (first | refine blk_drewN ?_ _ | refine blk_drew ?_ | refine blk_alloc ?_ _)); exact BK323.out) hb); have n3_ := Aside0.mk (below_step (by repeat (first | (with_reducible first | exact HB.out | apply below_alloc | apply pw_below_drewN | apply below_drew1 | refine below_set ?_ GE323.out) | exact HB.out)) hb); have n4_ := Aside0.mk (hbox); have n5_ := Aside0.mk ((by rw [hg]; exact (below_size (by repeat (first | (with_reducible first | exact HB.out | apply below_alloc | apply pw_below_drewN | apply below_drew1 | refine below_set ?_ GE323.out) | exact HB.out))) : w.heap.size ≤ gb324)); have n6_ := Aside0.mk ((by rw [hg]; exact (below_size (by repeat (first | (with_reducible first | exact HB.out | apply below_alloc | apply pw_below_drewN | apply below_drew1 | refine below_set ?_ GE323.out) | exact HB.out))) : w.heap.size ≤ gb324)); have n7_ := Aside0.mk ((by rw [hg]; exact Nat.ne_of_lt (blk_lt (g := gb323) (o := .cells #[.string ((rd_T41 l1 x10_2).f0), .bool ((rd_T41 l1 x10_2).f1), .string ((rd_T41 l1 x10_2).f2)] 41 (0, 0)) (by (with_reducible repeat (first | refine blk_drewN ?_ _ | refine blk_drew ?_ | refine blk_alloc ?_ _)); refine blk_put (cs := #[.string ((rd_T41 l1 x10_2).f0), .bool ((rd_T41 l1 x10_2).f1), .string (⟨#[]⟩ : ByteArray)]) ?_ 2 _ rfl; (with_reducible repeat (first | refine blk_drewN ?_ _ | refine blk_drew ?_ | refine blk_alloc ?_ _)); refine blk_put (cs := #[.string ((rd_T41 l1 x10_2).f0), .bool false, .string (⟨#[]⟩ : ByteArray)]) ?_ 1 _ rfl; (with_reducible repeat (first | refine blk_drewN ?_ _ | refine blk_drew ?_ | refine blk_alloc ?_ _)); refine blk_put (cs := #[.string (⟨#[]⟩ : ByteArray), .bool false, .string (⟨#[]⟩ : ByteArray)]) ?_ 0 _ rfl; (with_reducible repeat (first | refine blk_drewN ?_ _ | refine blk_drew ?_ | refine blk_alloc ?_ _)); exact BK323.out)) : gb323 ≠ gb324)); have n8_ := Aside0.mk ((by rw [hg]; exact Nat.ne_of_gt (blk_lt (g := gb323) (o := .cells #[.string ((rd_T41 l1 x10_2).f0), .bool ((rd_T41 l1 x10_2).f1), .string ((rd_T41 l1 x10_2).f2)] 41 (0, 0)) (by (with_reducible repeat (first | refine blk_drewN ?_ _ | refine blk_drew ?_ | refine blk_alloc ?_ _)); refine blk_put (cs := #[.string ((rd_T41 l1 x10_2).f0), .bool ((rd_T41 l1 x10_2).f1), .string (⟨#[]⟩ : ByteArray)]) ?_ 2 _ rfl; (with_reducible repeat (first | refine blk_drewN ?_ _ | refine blk_drew ?_ | refine blk_alloc ?_ _)); refine blk_put (cs := #[.string ((rd_T41 l1 x10_2).f0), .bool false, .string (⟨#[]⟩ : ByteArray)]) ?_ 1 _ rfl; (with_reducible repeat (first | refine blk_drewN ?_ _ | refine blk_drew ?_ | refine blk_alloc ?_ _)); refine blk_put (cs := #[.string (⟨#[]⟩ : ByteArray), .bool false, .string (⟨#[]⟩ : ByteArray)]) ?_ 0 _ rfl; (with_reducible repeat (first | refine blk_drewN ?_ _ | refine blk_drew ?_ | refine blk_alloc ?_ _)); exact BK323.out)) : gb324 ≠ gb323)); clear HO_7; clear HO_9; clear BK323; clear HB; have HO_7 := n0_; have HO_9 := n1_; have BK323 := n2_; have HB := n3_; have BK324 := n4_; have GW324 := n5_; have GE324 := n6_; have NB323_324 := n7_; have NB324_323 := n8_; clear n0_ n1_ n2_ n3_ n4_ n5_ n6_ n7_ n8_; clear hb hbox hg; have hnb24 := NB324_323.out; have hnc24 := NB323_324.out; have hcz25_0 : w23.cell? ⟨gb324, 0, none⟩ = some (.int .i64 0) := (blk_cell BK324.out 0).trans rfl; have hcz25_1 : w23.cell? ⟨gb324, 1, none⟩ = some (.int .i64 0) := (blk_cell BK324.out 1).trans rfl; have hcz25_2 : w23.cell? ⟨gb324, 2, none⟩ = some (.string (⟨#[]⟩ : ByteArray)) := (blk_cell BK324.out 2).trans rfl; have hcz25_3 : w23.cell? ⟨gb324, 3, none⟩ = some (.bool false) := (blk_cell BK324.out 3).trans rfl; have hcz25_4 : w23.cell? ⟨gb324, 4, none⟩ = some (.string (⟨#[]⟩ : ByteArray)) := (blk_cell BK324.out 4).trans rfl; have hfz25_0 := blk_frozen BK324.out 0; have hfz25_1 := blk_frozen BK324.out 1; have hfz25_2 := blk_frozen BK324.out 2; have hfz25_3 := blk_frozen BK324.out 3; have hfz25_4 := blk_frozen BK324.out 4))
                  go_loopg [13] k2 (fun kq v13 w' => ∃ (x13_3 : Int) (x325003_3 : Bool) (x325004_3 : ByteArray), v13 = .int .i64 x13_3 ∧ Aside0 (ringworklaw25_JournalUndone.l1 kq l0 l1 a2 x7_2 x9_2 x10_2 x13_3 ((rd_T41 l1 x10_2).f0) ((rd_T41 l1 x10_2).f1) ((rd_T41 l1 x10_2).f2) 2 a2 ((rd_T41 l1 x10_2).f0) x325003_3 x325004_3 = some r) ∧ Aside0 (kq ≤ k2) ∧ Aside0 (Kd.R k41 41 w' w.heap.size (fun k_ => k_ ≠ gb323) u7 x7_2) ∧ Aside0 (Kd.R k39 39 w' w.heap.size (fun k_ => k_ ≠ gb324) u9 x9_2) ∧ Aside0 (w'.heap[gb323]? = some (.cells #[.string ((rd_T41 l1 x10_2).f0), .bool ((rd_T41 l1 x10_2).f1), .string ((rd_T41 l1 x10_2).f2)] 41 (0, 0))) ∧ Aside0 (w'.heap[gb324]? = some (.cells #[.int .i64 2, .int .i64 a2, .string ((rd_T41 l1 x10_2).f0), .bool x325003_3, .string x325004_3] 39 (0, 0))) ∧ Aside0 (Below w.heap.size w w'))
                  case atStart => exact ⟨(0), (false), ((⟨#[]⟩ : ByteArray)), (by first | rfl | (simp; done) | (simp [*]; done)), H', ⟨Nat.le_refl _⟩, ⟨by (with_reducible repeat (first | apply Kd.R_alloc | apply Kd.R_drewN | apply Kd.R_drew)); exact Kd.R_mono (Kd.R_far (p := ⟨gb324, 4, none⟩) (Kd.R_far (p := ⟨gb324, 3, none⟩) (Kd.R_far (p := ⟨gb324, 2, none⟩) (Kd.R_far (p := ⟨gb324, 1, none⟩) (Kd.R_far (p := ⟨gb324, 0, none⟩) (Kd.R_types HO_7.out BK324.out (by decide)) (fun _ hk => hk.2) (.int .i64 2)) (fun _ hk => hk.2) (.int .i64 a2)) (fun _ hk => hk.2) (.string ((rd_T41 l1 x10_2).f0))) (fun _ hk => hk.2) (.bool false)) (fun _ hk => hk.2) (.string (⟨#[]⟩ : ByteArray))) (fun _ hk => hk.1.2)⟩, ⟨by (with_reducible repeat (first | apply Kd.R_alloc | apply Kd.R_drewN | apply Kd.R_drew)); exact Kd.R_mono (Kd.R_far (p := ⟨gb324, 4, none⟩) (Kd.R_far (p := ⟨gb324, 3, none⟩) (Kd.R_far (p := ⟨gb324, 2, none⟩) (Kd.R_far (p := ⟨gb324, 1, none⟩) (Kd.R_far (p := ⟨gb324, 0, none⟩) (Kd.R_mono HO_9.out (fun k_ hk => (⟨hk, hk.2⟩ : _ ∧ k_ ≠ gb324))) (fun _ hk => hk.2) (.int .i64 2)) (fun _ hk => hk.2) (.int .i64 a2)) (fun _ hk => hk.2) (.string ((rd_T41 l1 x10_2).f0))) (fun _ hk => hk.2) (.bool false)) (fun _ hk => hk.2) (.string (⟨#[]⟩ : ByteArray))) (fun _ hk => hk.1.2)⟩, ⟨by (with_reducible repeat (first | refine blk_drewN ?_ _ | refine blk_drew ?_ | refine blk_alloc ?_ _)); refine blk_far ?_ NB323_324.out _; (with_reducible repeat (first | refine blk_drewN ?_ _ | refine blk_drew ?_ | refine blk_alloc ?_ _)); refine blk_far ?_ NB323_324.out _; (with_reducible repeat (first | refine blk_drewN ?_ _ | refine blk_drew ?_ | refine blk_alloc ?_ _)); refine blk_far ?_ NB323_324.out _; (with_reducible repeat (first | refine blk_drewN ?_ _ | refine blk_drew ?_ | refine blk_alloc ?_ _)); refine blk_far ?_ NB323_324.out _; (with_reducible repeat (first | refine blk_drewN ?_ _ | refine blk_drew ?_ | refine blk_alloc ?_ _)); refine blk_far ?_ NB323_324.out _; (with_reducible repeat (first | refine blk_drewN ?_ _ | refine blk_drew ?_ | refine blk_alloc ?_ _)); exact BK323.out⟩, ⟨by (with_reducible repeat (first | refine blk_drewN ?_ _ | refine blk_drew ?_ | refine blk_alloc ?_ _)); refine blk_put (cs := #[.int .i64 2, .int .i64 a2, .string ((rd_T41 l1 x10_2).f0), .bool false, .string (⟨#[]⟩ : ByteArray)]) ?_ 4 _ rfl; (with_reducible repeat (first | refine blk_drewN ?_ _ | refine blk_drew ?_ | refine blk_alloc ?_ _)); refine blk_put (cs := #[.int .i64 2, .int .i64 a2, .string ((rd_T41 l1 x10_2).f0), .bool false, .string (⟨#[]⟩ : ByteArray)]) ?_ 3 _ rfl; (with_reducible repeat (first | refine blk_drewN ?_ _ | refine blk_drew ?_ | refine blk_alloc ?_ _)); refine blk_put (cs := #[.int .i64 2, .int .i64 a2, .string (⟨#[]⟩ : ByteArray), .bool false, .string (⟨#[]⟩ : ByteArray)]) ?_ 2 _ rfl; (with_reducible repeat (first | refine blk_drewN ?_ _ | refine blk_drew ?_ | refine blk_alloc ?_ _)); refine blk_put (cs := #[.int .i64 2, .int .i64 0, .string (⟨#[]⟩ : ByteArray), .bool false, .string (⟨#[]⟩ : ByteArray)]) ?_ 1 _ rfl; (with_reducible repeat (first | refine blk_drewN ?_ _ | refine blk_drew ?_ | refine blk_alloc ?_ _)); refine blk_put (cs := #[.int .i64 0, .int .i64 0, .string (⟨#[]⟩ : ByteArray), .bool false, .string (⟨#[]⟩ : ByteArray)]) ?_ 0 _ rfl; (with_reducible repeat (first | refine blk_drewN ?_ _ | refine blk_drew ?_ | refine blk_alloc ?_ _)); exact BK324.out⟩, ⟨by repeat (first | (with_reducible first | exact HB.out | apply below_alloc | apply pw_below_drewN | apply below_drew1 | refine below_set ?_ GE323.out | refine below_set ?_ GE324.out) | exact HB.out)⟩⟩
                  case round =>
                    clear H'
                    try clear c1
                    try clear c2
                    try clear p2
                    try clear p3
                    try clear q3
                    try clear hx3
                    try clear c5
                    try clear c6
                    try clear c8
                    try clear c9
                    try clear c9b0
                    try clear c9b1
                    try clear c10
                    try clear c10b0
                    try clear c11
                    try clear c12
                    try clear c15
                    try clear c15b0
                    try clear c15b1
                    try clear c19
                    try clear c19b0
                    try clear c20
                    try clear c20b0
                    try clear c21
                    try clear c24
                    try clear hcz22_0
                    try clear hcz22_1
                    try clear hcz22_2
                    try clear hcz25_0
                    try clear hcz25_1
                    try clear hcz25_2
                    try clear hcz25_3
                    try clear hcz25_4
                    try clear hfz22_0
                    try clear hfz22_1
                    try clear hfz22_2
                    try clear hfz25_0
                    try clear hfz25_1
                    try clear hfz25_2
                    try clear hfz25_3
                    try clear hfz25_4
                    try clear hx322_0
                    try clear hx322_1
                    try clear hx322_2
                    try clear p2
                    try clear p322
                    try clear q322
                    obtain ⟨x13_3, x325003_3, x325004_3, rfl, HA, HK3, HO_7, HO_9, BK323, BK324, HB⟩ := hrel
                    cases gk with
                    | zero => exact absurd HA.out (by simp [ringworklaw25_JournalUndone.l1])
                    | succ k3 =>
                      have H := HA.out
                      clear HA
                      simp only [ringworklaw25_JournalUndone.l1] at H
                      by_cases c26 : x13_3 < (x7_2.length : Int)
                      · rw [if_pos c26] at H
                        have c26b0 : decide (x13_3 < (x7_2.length : Int)) = true := decide_eq_true c26
                        clear c26
                        by_cases c27 : 0 ≤ x13_3
                        · rw [if_pos c27] at H
                          have c27b0 : decide (0 ≤ x13_3) = true := decide_eq_true c27
                          clear c27
                          by_cases c28 : ((rd_T41 x7_2 x13_3).f0).toList = ((rd_T41 l1 x10_2).f0).toList
                          · rw [if_pos c28] at H
                            have c28b0 : (((rd_T41 x7_2 x13_3).f0).toList == ((rd_T41 l1 x10_2).f0).toList) = true := beq_iff_eq.mpr c28
                            have c28b1 : (((rd_T41 x7_2 x13_3).f0).toList != ((rd_T41 l1 x10_2).f0).toList) = false := bne_eq_false_iff_eq.mpr c28
                            clear c28
                            have H' := Aside0.mk H
                            clear H
                            obtain ⟨Ao29, co29, eo29⟩ := Kd.R_slice HO_7.out
                            subst eo29
                            try go_wp2
                            have n0_ := Aside0.mk (Kd.R_drew HO_7.out)
                            have n1_ := Aside0.mk (Kd.R_drew HO_9.out)
                            have n2_ := Aside0.mk (blk_drew BK323.out)
                            have n3_ := Aside0.mk (blk_drew BK324.out)
                            have n4_ := Aside0.mk (below_drew1 HB.out)
                            clear HO_7
                            clear HO_9
                            clear BK323
                            clear BK324
                            clear HB
                            have HO_7 := n0_
                            have HO_9 := n1_
                            have BK323 := n2_
                            have BK324 := n3_
                            have HB := n4_
                            clear n0_ n1_ n2_ n3_ n4_
                            have p325 : 0 ≤ (x13_3 : Int) := of_decide_eq_true (by first | (with_reducible assumption) | assumption)
                            have q325 : x13_3 < (x7_2.length : Int) := of_decide_eq_true (by first | (with_reducible assumption) | assumption)
                            obtain ⟨ad325, e325, hx325_0, hx325_1, hx325_2⟩ := at_T41 (Kd.R_reads' HO_7.out).2.2 x13_3 p325 q325
                            cases e325
                            replace p325 := eq_true p325
                            replace q325 := eq_true q325
                            refine start_ (n := 8) (S := fun w' => w'.cell? ⟨gb323, 0, none⟩ = some (.string ((rd_T41 l1 x10_2).f0)) ∧ w'.cell? ⟨gb323, 1, none⟩ = some (.bool ((rd_T41 l1 x10_2).f1)) ∧ w'.cell? ⟨gb323, 2, none⟩ = some (.string ((rd_T41 l1 x10_2).f2)) ∧ w'.cell? (ad325.add ((x13_3).toNat * 3)) = some (.string ((rd_T41 x7_2 x13_3).f0)) ∧ w'.cell? ⟨(ad325.add ((x13_3).toNat * 3)).block, (ad325.add ((x13_3).toNat * 3)).off + 1, none⟩ = some (.bool ((rd_T41 x7_2 x13_3).f1)) ∧ w'.cell? ⟨(ad325.add ((x13_3).toNat * 3)).block, (ad325.add ((x13_3).toNat * 3)).off + 2, none⟩ = some (.string ((rd_T41 x7_2 x13_3).f2))) (ds := []) #[false, false, false, false, false, false, false, false] (by kernel_rfl) rfl rfl ⟨(blk_cell BK323.out 0).trans rfl, (blk_cell BK323.out 1).trans rfl, (blk_cell BK323.out 2).trans rfl, hx325_0, hx325_1, hx325_2⟩ (fun hHeld => ?_); refine with_tabW ringworklaw25_JournalUndone.tab15 ringworklaw25_JournalUndone.bits15 (fun HT_ HW_ => ?_)
                            generalize wr.drew = w30 at HO_7 HO_9 BK323 BK324 HB hx325_0 hx325_1 hx325_2 hHeld ⊢
                            refine pure_ (i := 0) (N := some 69) (v := ?_) (a' := ?_) #[true, false, false, false, false, false, false, false] rfl rfl (any_of HT_.out (by kernel_rfl)) (fun _ _ _ h => h) (Or.inl ⟨by rfl, ?_⟩) ?_ ?_
                            rotate_left
                            · intro w'
                              go_simp
                              with_reducible rfl
                            rotate_left
                            · simp only [Act.put, List.setIfInBounds_toArray, List.set_cons_zero, List.set_cons_succ, i64_w, i32_w]
                              rfl
                            refine pure_ (i := 1) (N := some 70) (v := ?_) (a' := ?_) #[true, true, false, false, false, false, false, false] rfl rfl (any_of HT_.out (by kernel_rfl)) (fun _ _ _ h => h) (Or.inl ⟨by rfl, ?_⟩) ?_ ?_
                            rotate_left
                            · intro w'
                              go_simp
                              with_reducible rfl
                            rotate_left
                            · simp only [Act.put, List.setIfInBounds_toArray, List.set_cons_zero, List.set_cons_succ, i64_w, i32_w]
                              rfl
                            refine pure_ (i := 2) (N := some 71) (v := ?_) (a' := ?_) #[true, true, true, false, false, false, false, false] rfl rfl (any_of HT_.out (by kernel_rfl)) (fun _ _ _ h => h) (Or.inl ⟨by rfl, ?_⟩) ?_ ?_
                            rotate_left
                            · intro w'
                              go_simp
                              with_reducible rfl
                            rotate_left
                            · simp only [Act.put, List.setIfInBounds_toArray, List.set_cons_zero, List.set_cons_succ, i64_w, i32_w]
                              rfl
                            refine pure_ (i := 3) (N := some 72) (v := ?_) (a' := ?_) #[true, true, true, true, false, false, false, false] rfl rfl (any_of HT_.out (by kernel_rfl)) (fun _ _ _ h => h) (Or.inl ⟨by rfl, ?_⟩) ?_ ?_
                            rotate_left
                            · intro w'
                              go_simp
                              with_reducible rfl
                            rotate_left
                            · simp only [Act.put, List.setIfInBounds_toArray, List.set_cons_zero, List.set_cons_succ, i64_w, i32_w]
                              rfl
                            refine pure_ (i := 5) (N := some 74) (v := ?_) (a' := ?_) #[true, true, true, true, false, true, false, false] rfl rfl (any_of HT_.out (by kernel_rfl)) (fun _ _ _ h => h) (Or.inl ⟨by rfl, ?_⟩) ?_ ?_
                            rotate_left
                            · intro w'
                              go_simp
                              with_reducible rfl
                            rotate_left
                            · simp only [Act.put, List.setIfInBounds_toArray, List.set_cons_zero, List.set_cons_succ, i64_w, i32_w]
                              rfl
                            refine take_ (i := 4) (N := some 73) (v := ?_) (a' := ?_) #[true, true, true, true, true, true, false, false] rfl rfl (take_ofW HT_.out HW_.out (by kernel_rfl)) (fun _ _ _ h => h) (Or.inl ⟨by rfl, ?_⟩) hHeld ?_ ?_
                            rotate_left
                            · rintro w' ⟨s0, s1, s2, s3, s4, s5⟩
                              go_simp
                              with_reducible rfl
                            rotate_left
                            · simp only [Act.put, List.setIfInBounds_toArray, List.set_cons_zero, List.set_cons_succ, i64_w, i32_w]
                              rfl
                            refine take_ (i := 6) (N := some 75) (v := ?_) (a' := ?_) #[true, true, true, true, true, true, true, false] rfl rfl (take_ofW HT_.out HW_.out (by kernel_rfl)) (fun _ _ _ h => h) (Or.inl ⟨by rfl, ?_⟩) hHeld ?_ ?_
                            rotate_left
                            · rintro w' ⟨s0, s1, s2, s3, s4, s5⟩
                              go_simp
                              with_reducible rfl
                            rotate_left
                            · simp only [Act.put, List.setIfInBounds_toArray, List.set_cons_zero, List.set_cons_succ, i64_w, i32_w]
                              rfl
                            refine pure_ (i := 7) (N := some 76) (v := ?_) (a' := ?_) #[true, true, true, true, true, true, true, true] rfl rfl (any_of HT_.out (by kernel_rfl)) (fun _ _ _ h => h) (Or.inl ⟨by rfl, ?_⟩) ?_ ?_
                            rotate_left
                            · intro w'
                              go_simp
                              with_reducible rfl
                            rotate_left
                            · simp only [Act.put, List.setIfInBounds_toArray, List.set_cons_zero, List.set_cons_succ, i64_w, i32_w]
                              rfl
                            refine done_ (done_of HT_.out (by kernel_rfl)) ?_
                            try go_wp2
                            have n0_ := Aside0.mk (Kd.R_drew HO_7.out)
                            have n1_ := Aside0.mk (Kd.R_drew HO_9.out)
                            have n2_ := Aside0.mk (blk_drew BK323.out)
                            have n3_ := Aside0.mk (blk_drew BK324.out)
                            have n4_ := Aside0.mk (below_drew1 HB.out)
                            clear HO_7
                            clear HO_9
                            clear BK323
                            clear BK324
                            clear HB
                            have HO_7 := n0_
                            have HO_9 := n1_
                            have BK323 := n2_
                            have BK324 := n3_
                            have HB := n4_
                            clear n0_ n1_ n2_ n3_ n4_
                            have p326 : 0 ≤ (x13_3 : Int) := of_decide_eq_true (by first | (with_reducible assumption) | assumption)
                            have q326 : x13_3 < (x7_2.length : Int) := of_decide_eq_true (by first | (with_reducible assumption) | assumption)
                            obtain ⟨ad326, e326, hx326_0, hx326_1, hx326_2⟩ := at_T41 (Kd.R_reads' HO_7.out).2.2 x13_3 p326 q326
                            obtain rfl : ad325 = ad326 := (by injection e326)
                            replace p326 := eq_true p326
                            replace q326 := eq_true q326
                            refine start_ (n := 9) (S := fun w' => w'.cell? (ad325.add ((x13_3).toNat * 3)) = some (.string ((rd_T41 x7_2 x13_3).f0)) ∧ w'.cell? ⟨(ad325.add ((x13_3).toNat * 3)).block, (ad325.add ((x13_3).toNat * 3)).off + 1, none⟩ = some (.bool ((rd_T41 x7_2 x13_3).f1)) ∧ w'.cell? ⟨(ad325.add ((x13_3).toNat * 3)).block, (ad325.add ((x13_3).toNat * 3)).off + 2, none⟩ = some (.string ((rd_T41 x7_2 x13_3).f2))) (ds := []) #[false, false, false, false, false, false, false, false, false] (by kernel_rfl) rfl rfl ⟨hx326_0, hx326_1, hx326_2⟩ (fun hHeld => ?_); refine with_tabW ringworklaw25_JournalUndone.tab16 ringworklaw25_JournalUndone.bits16 (fun HT_ HW_ => ?_)
                            generalize w30.drew = w31 at HO_7 HO_9 BK323 BK324 HB hx326_0 hx326_1 hx326_2 hHeld ⊢
                            refine pure_ (i := 0) (N := some 77) (v := ?_) (a' := ?_) #[true, false, false, false, false, false, false, false, false] rfl rfl (any_of HT_.out (by kernel_rfl)) (fun _ _ _ h => h) (Or.inl ⟨by rfl, ?_⟩) ?_ ?_
                            rotate_left
                            · intro w'
                              go_simp
                              with_reducible rfl
                            rotate_left
                            · simp only [Act.put, List.setIfInBounds_toArray, List.set_cons_zero, List.set_cons_succ, i64_w, i32_w]
                              rfl
                            refine pure_ (i := 1) (N := some 78) (v := ?_) (a' := ?_) #[true, true, false, false, false, false, false, false, false] rfl rfl (any_of HT_.out (by kernel_rfl)) (fun _ _ _ h => h) (Or.inl ⟨by rfl, ?_⟩) ?_ ?_
                            rotate_left
                            · intro w'
                              go_simp
                              with_reducible rfl
                            rotate_left
                            · simp only [Act.put, List.setIfInBounds_toArray, List.set_cons_zero, List.set_cons_succ, i64_w, i32_w]
                              rfl
                            refine pure_ (i := 2) (N := some 79) (v := ?_) (a' := ?_) #[true, true, true, false, false, false, false, false, false] rfl rfl (any_of HT_.out (by kernel_rfl)) (fun _ _ _ h => h) (Or.inl ⟨by rfl, ?_⟩) ?_ ?_
                            rotate_left
                            · intro w'
                              go_simp
                              with_reducible rfl
                            rotate_left
                            · simp only [Act.put, List.setIfInBounds_toArray, List.set_cons_zero, List.set_cons_succ, i64_w, i32_w]
                              rfl
                            refine pure_ (i := 3) (N := some 80) (v := ?_) (a' := ?_) #[true, true, true, true, false, false, false, false, false] rfl rfl (any_of HT_.out (by kernel_rfl)) (fun _ _ _ h => h) (Or.inl ⟨by rfl, ?_⟩) ?_ ?_
                            rotate_left
                            · intro w'
                              go_simp
                              with_reducible rfl
                            rotate_left
                            · simp only [Act.put, List.setIfInBounds_toArray, List.set_cons_zero, List.set_cons_succ, i64_w, i32_w]
                              rfl
                            refine pure_ (i := 5) (N := some 82) (v := ?_) (a' := ?_) #[true, true, true, true, false, true, false, false, false] rfl rfl (any_of HT_.out (by kernel_rfl)) (fun _ _ _ h => h) (Or.inl ⟨by rfl, ?_⟩) ?_ ?_
                            rotate_left
                            · intro w'
                              go_simp
                              with_reducible rfl
                            rotate_left
                            · simp only [Act.put, List.setIfInBounds_toArray, List.set_cons_zero, List.set_cons_succ, i64_w, i32_w]
                              rfl
                            refine take_ (i := 4) (N := some 81) (v := ?_) (a' := ?_) #[true, true, true, true, true, true, false, false, false] rfl rfl (take_ofW HT_.out HW_.out (by kernel_rfl)) (fun _ _ _ h => h) (Or.inl ⟨by rfl, ?_⟩) hHeld ?_ ?_
                            rotate_left
                            · rintro w' ⟨s0, s1, s2⟩
                              go_simp
                              with_reducible rfl
                            rotate_left
                            · simp only [Act.put, List.setIfInBounds_toArray, List.set_cons_zero, List.set_cons_succ, i64_w, i32_w]
                              rfl
                            refine one_ (i := 6) (N := none) #[true, true, true, true, true, true, true, false, false] rfl rfl (one_of HT_.out (by kernel_rfl)) (by decide) (fun K hK => ?_)
                            have hs32 : w31.cell? ⟨gb324, 3, none⟩ = some (.bool x325003_3) := (blk_cell BK324.out 3).trans rfl
                            have hfs32 := blk_frozen BK324.out 3
                            have hns32_0 := NB323_324.out
                            have hms32_0 := NB324_323.out
                            refine skip_ (w1 := ?_) (by rfl) rfl ?_ ?_
                            rotate_left
                            · go_simp
                              rfl
                            refine hK.out _ _ ⟨((cell_far (p := ⟨gb324, _, none⟩) (by first | exact Kd.own_blk (Kd.R_ne HO_7.out BK324.out (by decide)) | (rw [add_block]; exact Kd.own_blk (Kd.R_ne HO_7.out BK324.out (by decide))) | (show (Addr.add _ _).block ≠ _; rw [add_block]; exact Kd.own_blk (Kd.R_ne HO_7.out BK324.out (by decide))) | (dsimp only; exact Kd.own_blk (Kd.R_ne HO_7.out BK324.out (by decide)))) _).trans (hHeld.1)), ((cell_far (p := ⟨gb324, _, none⟩) (by first | exact Kd.own_blk (Kd.R_ne HO_7.out BK324.out (by decide)) | (rw [add_block]; exact Kd.own_blk (Kd.R_ne HO_7.out BK324.out (by decide))) | (show (Addr.add _ _).block ≠ _; rw [add_block]; exact Kd.own_blk (Kd.R_ne HO_7.out BK324.out (by decide))) | (dsimp only; exact Kd.own_blk (Kd.R_ne HO_7.out BK324.out (by decide)))) _).trans (hHeld.2.1)), ((cell_far (p := ⟨gb324, _, none⟩) (by first | exact Kd.own_blk (Kd.R_ne HO_7.out BK324.out (by decide)) | (rw [add_block]; exact Kd.own_blk (Kd.R_ne HO_7.out BK324.out (by decide))) | (show (Addr.add _ _).block ≠ _; rw [add_block]; exact Kd.own_blk (Kd.R_ne HO_7.out BK324.out (by decide))) | (dsimp only; exact Kd.own_blk (Kd.R_ne HO_7.out BK324.out (by decide)))) _).trans (hHeld.2.2))⟩ (fun hHeld => ?_)
                            clear hK K
                            refine pure_ (i := 7) (N := some 83) (v := ?_) (a' := ?_) #[true, true, true, true, true, true, true, true, false] rfl rfl (any_of HT_.out (by kernel_rfl)) (fun _ _ _ h => h) (Or.inl ⟨by rfl, ?_⟩) ?_ ?_
                            rotate_left
                            · intro w'
                              go_simp
                              with_reducible rfl
                            rotate_left
                            · simp only [Act.put, List.setIfInBounds_toArray, List.set_cons_zero, List.set_cons_succ, i64_w, i32_w]
                              rfl
                            refine one_ (i := 8) (N := none) #[true, true, true, true, true, true, true, true, true] rfl rfl (one_of HT_.out (by kernel_rfl)) (by decide) (fun K hK => ?_)
                            have hs33 : w31.cell? ⟨gb324, 4, none⟩ = some (.string x325004_3) := (blk_cell BK324.out 4).trans rfl
                            have hfs33 := blk_frozen BK324.out 4
                            have hns33_0 := NB323_324.out
                            have hms33_0 := NB324_323.out
                            refine skip_ (w1 := ?_) (by rfl) rfl ?_ ?_
                            rotate_left
                            · go_simp
                              rfl
                            refine hK.out _ _ ⟨((cell_far (p := ⟨gb324, _, none⟩) (by first | exact Kd.own_blk (Kd.R_ne HO_7.out BK324.out (by decide)) | (rw [add_block]; exact Kd.own_blk (Kd.R_ne HO_7.out BK324.out (by decide))) | (show (Addr.add _ _).block ≠ _; rw [add_block]; exact Kd.own_blk (Kd.R_ne HO_7.out BK324.out (by decide))) | (dsimp only; exact Kd.own_blk (Kd.R_ne HO_7.out BK324.out (by decide)))) _).trans (hHeld.1)), ((cell_far (p := ⟨gb324, _, none⟩) (by first | exact Kd.own_blk (Kd.R_ne HO_7.out BK324.out (by decide)) | (rw [add_block]; exact Kd.own_blk (Kd.R_ne HO_7.out BK324.out (by decide))) | (show (Addr.add _ _).block ≠ _; rw [add_block]; exact Kd.own_blk (Kd.R_ne HO_7.out BK324.out (by decide))) | (dsimp only; exact Kd.own_blk (Kd.R_ne HO_7.out BK324.out (by decide)))) _).trans (hHeld.2.1)), ((cell_far (p := ⟨gb324, _, none⟩) (by first | exact Kd.own_blk (Kd.R_ne HO_7.out BK324.out (by decide)) | (rw [add_block]; exact Kd.own_blk (Kd.R_ne HO_7.out BK324.out (by decide))) | (show (Addr.add _ _).block ≠ _; rw [add_block]; exact Kd.own_blk (Kd.R_ne HO_7.out BK324.out (by decide))) | (dsimp only; exact Kd.own_blk (Kd.R_ne HO_7.out BK324.out (by decide)))) _).trans (hHeld.2.2))⟩ (fun hHeld => ?_)
                            clear hK K
                            refine done_ (done_of HT_.out (by kernel_rfl)) ?_
                            try go_wp2
                            go_roundg k3
                            case measure => have := HJ3.out; have := HK2.out; have := HK3.out; omega
                            case rel => exact ⟨(wrap64 (x13_3 + 1)), (true), ((rd_T41 x7_2 x13_3).f2), (by first | rfl | (simp; done) | (simp [*]; done)), H', ⟨by have := HJ3.out; have := HK2.out; have := HK3.out; omega⟩, ⟨by (with_reducible repeat (first | apply Kd.R_alloc | apply Kd.R_drewN | apply Kd.R_drew)); exact Kd.R_mono (Kd.R_far (p := ⟨gb324, 4, none⟩) (Kd.R_far (p := ⟨gb324, 3, none⟩) (Kd.R_types HO_7.out BK324.out (by decide)) (fun _ hk => hk.2) (.bool true)) (fun _ hk => hk.2) (.string ((rd_T41 x7_2 x13_3).f2))) (fun _ hk => hk.1)⟩, ⟨by (with_reducible repeat (first | apply Kd.R_alloc | apply Kd.R_drewN | apply Kd.R_drew)); exact Kd.R_mono (Kd.R_far (p := ⟨gb324, 4, none⟩) (Kd.R_far (p := ⟨gb324, 3, none⟩) (Kd.R_mono HO_9.out (fun k_ hk => (⟨hk, hk⟩ : _ ∧ k_ ≠ gb324))) (fun _ hk => hk.2) (.bool true)) (fun _ hk => hk.2) (.string ((rd_T41 x7_2 x13_3).f2))) (fun _ hk => hk.1)⟩, ⟨by (with_reducible repeat (first | refine blk_drewN ?_ _ | refine blk_drew ?_ | refine blk_alloc ?_ _)); refine blk_far ?_ NB323_324.out _; (with_reducible repeat (first | refine blk_drewN ?_ _ | refine blk_drew ?_ | refine blk_alloc ?_ _)); refine blk_far ?_ NB323_324.out _; (with_reducible repeat (first | refine blk_drewN ?_ _ | refine blk_drew ?_ | refine blk_alloc ?_ _)); exact BK323.out⟩, ⟨by (with_reducible repeat (first | refine blk_drewN ?_ _ | refine blk_drew ?_ | refine blk_alloc ?_ _)); refine blk_put (cs := #[.int .i64 2, .int .i64 a2, .string ((rd_T41 l1 x10_2).f0), .bool true, .string x325004_3]) ?_ 4 _ rfl; (with_reducible repeat (first | refine blk_drewN ?_ _ | refine blk_drew ?_ | refine blk_alloc ?_ _)); refine blk_put (cs := #[.int .i64 2, .int .i64 a2, .string ((rd_T41 l1 x10_2).f0), .bool x325003_3, .string x325004_3]) ?_ 3 _ rfl; (with_reducible repeat (first | refine blk_drewN ?_ _ | refine blk_drew ?_ | refine blk_alloc ?_ _)); exact BK324.out⟩, ⟨by repeat (first | (with_reducible first | exact HB.out | apply below_alloc | apply pw_below_drewN | apply below_drew1 | refine below_set ?_ GE323.out | refine below_set ?_ GE324.out) | exact HB.out)⟩⟩
                          · rw [if_neg c28] at H
                            have c28b0 : (((rd_T41 x7_2 x13_3).f0).toList == ((rd_T41 l1 x10_2).f0).toList) = false := beq_eq_false_iff_ne.mpr c28
                            have c28b1 : (((rd_T41 x7_2 x13_3).f0).toList != ((rd_T41 l1 x10_2).f0).toList) = true := bne_iff_ne.mpr c28
                            have H' := Aside0.mk H
                            clear H
                            obtain ⟨Ao34, co34, eo34⟩ := Kd.R_slice HO_7.out
                            subst eo34
                            try go_wp2
                            have n0_ := Aside0.mk (Kd.R_drew HO_7.out)
                            have n1_ := Aside0.mk (Kd.R_drew HO_9.out)
                            have n2_ := Aside0.mk (blk_drew BK323.out)
                            have n3_ := Aside0.mk (blk_drew BK324.out)
                            have n4_ := Aside0.mk (below_drew1 HB.out)
                            clear HO_7
                            clear HO_9
                            clear BK323
                            clear BK324
                            clear HB
                            have HO_7 := n0_
                            have HO_9 := n1_
                            have BK323 := n2_
                            have BK324 := n3_
                            have HB := n4_
                            clear n0_ n1_ n2_ n3_ n4_
                            have p325 : 0 ≤ (x13_3 : Int) := of_decide_eq_true (by first | (with_reducible assumption) | assumption)
                            have q325 : x13_3 < (x7_2.length : Int) := of_decide_eq_true (by first | (with_reducible assumption) | assumption)
                            obtain ⟨ad325, e325, hx325_0, hx325_1, hx325_2⟩ := at_T41 (Kd.R_reads' HO_7.out).2.2 x13_3 p325 q325
                            cases e325
                            replace p325 := eq_true p325
                            replace q325 := eq_true q325
                            refine start_ (n := 8) (S := fun w' => w'.cell? ⟨gb323, 0, none⟩ = some (.string ((rd_T41 l1 x10_2).f0)) ∧ w'.cell? ⟨gb323, 1, none⟩ = some (.bool ((rd_T41 l1 x10_2).f1)) ∧ w'.cell? ⟨gb323, 2, none⟩ = some (.string ((rd_T41 l1 x10_2).f2)) ∧ w'.cell? (ad325.add ((x13_3).toNat * 3)) = some (.string ((rd_T41 x7_2 x13_3).f0)) ∧ w'.cell? ⟨(ad325.add ((x13_3).toNat * 3)).block, (ad325.add ((x13_3).toNat * 3)).off + 1, none⟩ = some (.bool ((rd_T41 x7_2 x13_3).f1)) ∧ w'.cell? ⟨(ad325.add ((x13_3).toNat * 3)).block, (ad325.add ((x13_3).toNat * 3)).off + 2, none⟩ = some (.string ((rd_T41 x7_2 x13_3).f2))) (ds := []) #[false, false, false, false, false, false, false, false] (by kernel_rfl) rfl rfl ⟨(blk_cell BK323.out 0).trans rfl, (blk_cell BK323.out 1).trans rfl, (blk_cell BK323.out 2).trans rfl, hx325_0, hx325_1, hx325_2⟩ (fun hHeld => ?_); refine with_tabW ringworklaw25_JournalUndone.tab15 ringworklaw25_JournalUndone.bits15 (fun HT_ HW_ => ?_)
                            generalize wr.drew = w35 at HO_7 HO_9 BK323 BK324 HB hx325_0 hx325_1 hx325_2 hHeld ⊢
                            refine pure_ (i := 0) (N := some 69) (v := ?_) (a' := ?_) #[true, false, false, false, false, false, false, false] rfl rfl (any_of HT_.out (by kernel_rfl)) (fun _ _ _ h => h) (Or.inl ⟨by rfl, ?_⟩) ?_ ?_
                            rotate_left
                            · intro w'
                              go_simp
                              with_reducible rfl
                            rotate_left
                            · simp only [Act.put, List.setIfInBounds_toArray, List.set_cons_zero, List.set_cons_succ, i64_w, i32_w]
                              rfl
                            refine pure_ (i := 1) (N := some 70) (v := ?_) (a' := ?_) #[true, true, false, false, false, false, false, false] rfl rfl (any_of HT_.out (by kernel_rfl)) (fun _ _ _ h => h) (Or.inl ⟨by rfl, ?_⟩) ?_ ?_
                            rotate_left
                            · intro w'
                              go_simp
                              with_reducible rfl
                            rotate_left
                            · simp only [Act.put, List.setIfInBounds_toArray, List.set_cons_zero, List.set_cons_succ, i64_w, i32_w]
                              rfl
                            refine pure_ (i := 2) (N := some 71) (v := ?_) (a' := ?_) #[true, true, true, false, false, false, false, false] rfl rfl (any_of HT_.out (by kernel_rfl)) (fun _ _ _ h => h) (Or.inl ⟨by rfl, ?_⟩) ?_ ?_
                            rotate_left
                            · intro w'
                              go_simp
                              with_reducible rfl
                            rotate_left
                            · simp only [Act.put, List.setIfInBounds_toArray, List.set_cons_zero, List.set_cons_succ, i64_w, i32_w]
                              rfl
                            refine pure_ (i := 3) (N := some 72) (v := ?_) (a' := ?_) #[true, true, true, true, false, false, false, false] rfl rfl (any_of HT_.out (by kernel_rfl)) (fun _ _ _ h => h) (Or.inl ⟨by rfl, ?_⟩) ?_ ?_
                            rotate_left
                            · intro w'
                              go_simp
                              with_reducible rfl
                            rotate_left
                            · simp only [Act.put, List.setIfInBounds_toArray, List.set_cons_zero, List.set_cons_succ, i64_w, i32_w]
                              rfl
                            refine pure_ (i := 5) (N := some 74) (v := ?_) (a' := ?_) #[true, true, true, true, false, true, false, false] rfl rfl (any_of HT_.out (by kernel_rfl)) (fun _ _ _ h => h) (Or.inl ⟨by rfl, ?_⟩) ?_ ?_
                            rotate_left
                            · intro w'
                              go_simp
                              with_reducible rfl
                            rotate_left
                            · simp only [Act.put, List.setIfInBounds_toArray, List.set_cons_zero, List.set_cons_succ, i64_w, i32_w]
                              rfl
                            refine take_ (i := 4) (N := some 73) (v := ?_) (a' := ?_) #[true, true, true, true, true, true, false, false] rfl rfl (take_ofW HT_.out HW_.out (by kernel_rfl)) (fun _ _ _ h => h) (Or.inl ⟨by rfl, ?_⟩) hHeld ?_ ?_
                            rotate_left
                            · rintro w' ⟨s0, s1, s2, s3, s4, s5⟩
                              go_simp
                              with_reducible rfl
                            rotate_left
                            · simp only [Act.put, List.setIfInBounds_toArray, List.set_cons_zero, List.set_cons_succ, i64_w, i32_w]
                              rfl
                            refine take_ (i := 6) (N := some 75) (v := ?_) (a' := ?_) #[true, true, true, true, true, true, true, false] rfl rfl (take_ofW HT_.out HW_.out (by kernel_rfl)) (fun _ _ _ h => h) (Or.inl ⟨by rfl, ?_⟩) hHeld ?_ ?_
                            rotate_left
                            · rintro w' ⟨s0, s1, s2, s3, s4, s5⟩
                              go_simp
                              with_reducible rfl
                            rotate_left
                            · simp only [Act.put, List.setIfInBounds_toArray, List.set_cons_zero, List.set_cons_succ, i64_w, i32_w]
                              rfl
                            refine pure_ (i := 7) (N := some 76) (v := ?_) (a' := ?_) #[true, true, true, true, true, true, true, true] rfl rfl (any_of HT_.out (by kernel_rfl)) (fun _ _ _ h => h) (Or.inl ⟨by rfl, ?_⟩) ?_ ?_
                            rotate_left
                            · intro w'
                              go_simp
                              with_reducible rfl
                            rotate_left
                            · simp only [Act.put, List.setIfInBounds_toArray, List.set_cons_zero, List.set_cons_succ, i64_w, i32_w]
                              rfl
                            refine done_ (done_of HT_.out (by kernel_rfl)) ?_
                            try go_wp2
                            go_roundg k3
                            case measure => have := HJ3.out; have := HK2.out; have := HK3.out; omega
                            case rel => exact ⟨(wrap64 (x13_3 + 1)), (x325003_3), (x325004_3), (by first | rfl | (simp; done) | (simp [*]; done)), H', ⟨by have := HJ3.out; have := HK2.out; have := HK3.out; omega⟩, ⟨by (with_reducible repeat (first | apply Kd.R_alloc | apply Kd.R_drewN | apply Kd.R_drew)); exact HO_7.out⟩, ⟨by (with_reducible repeat (first | apply Kd.R_alloc | apply Kd.R_drewN | apply Kd.R_drew)); exact HO_9.out⟩, ⟨by (with_reducible repeat (first | refine blk_drewN ?_ _ | refine blk_drew ?_ | refine blk_alloc ?_ _)); exact BK323.out⟩, ⟨by (with_reducible repeat (first | refine blk_drewN ?_ _ | refine blk_drew ?_ | refine blk_alloc ?_ _)); exact BK324.out⟩, ⟨by repeat (first | (with_reducible first | exact HB.out | apply below_alloc | apply pw_below_drewN | apply below_drew1 | refine below_set ?_ GE323.out | refine below_set ?_ GE324.out) | exact HB.out)⟩⟩
                        · rw [if_neg c27] at H
                          exact absurd H (by simp)
                      · rw [if_neg c26] at H
                        have c26b0 : decide (x13_3 < (x7_2.length : Int)) = false := decide_eq_false c26
                        clear c26
                        obtain ⟨y327, hy327⟩ : ∃ y_ : List (S39), y_ = (([(⟨2, a2, ((rd_T41 l1 x10_2).f0), x325003_3, x325004_3⟩ : S39), (⟨3, a2, ((rd_T41 l1 x10_2).f0), ((rd_T41 l1 x10_2).f1), ((rd_T41 l1 x10_2).f2)⟩ : S39)] : List (S39))) := ⟨_, rfl⟩
                        replace H : (if x9_2.length + y327.length < 2513169434916 then ((journal_Apply.f x7_2 (([(⟨((rd_T41 l1 x10_2).f0), ((rd_T41 l1 x10_2).f1), ((rd_T41 l1 x10_2).f2)⟩ : S41)] : List (S41)))).bind fun bt336 => (if bt336.2 = 0 then (ringworklaw25_JournalUndone.l0 k3 l0 l1 a2 bt336.1 (x9_2 ++ y327) (wrap64 (x10_2 + 1))) else (if bt336.2 = 1 then ((ringworklaw25_awake.f).bind fun t340 => (some t340)) else (if bt336.2 = 4 then ((ringworklaw25_awake.f).bind fun t341 => (some t341)) else (some false))))) else (none)) = some r := by first | (rw [hy327]; with_reducible exact H) | (have H2_ := (Option.bind_some _ _).symm.trans H; rw [hy327]; with_reducible exact H2_) | (have H2_ := (Option.bind_some _ _).symm.trans H; with_reducible exact H2_) | with_reducible exact H | (rw [hy327]; exact H) | exact H
                        have Ny327 := Aside0.mk hy327
                        clear hy327
                        by_cases c36 : x9_2.length + y327.length < 2513169434916
                        · rw [if_pos c36] at H
                          have LMc36 := Aside0.mk c36
                          clear c36
                          obtain ⟨y330, hy330⟩ : ∃ y_ : List (S39), y_ = (x9_2 ++ y327) := ⟨_, rfl⟩
                          replace H : ((journal_Apply.f x7_2 (([(⟨((rd_T41 l1 x10_2).f0), ((rd_T41 l1 x10_2).f1), ((rd_T41 l1 x10_2).f2)⟩ : S41)] : List (S41)))).bind fun bt336 => (if bt336.2 = 0 then (ringworklaw25_JournalUndone.l0 k3 l0 l1 a2 bt336.1 y330 (wrap64 (x10_2 + 1))) else (if bt336.2 = 1 then ((ringworklaw25_awake.f).bind fun t340 => (some t340)) else (if bt336.2 = 4 then ((ringworklaw25_awake.f).bind fun t341 => (some t341)) else (some false))))) = some r := by first | (rw [hy330]; with_reducible exact H) | (have H2_ := (Option.bind_some _ _).symm.trans H; rw [hy330]; with_reducible exact H2_) | (have H2_ := (Option.bind_some _ _).symm.trans H; with_reducible exact H2_) | with_reducible exact H | (rw [hy330]; exact H) | exact H
                          have Ny330 := Aside0.mk hy330
                          clear hy330
                          obtain ⟨y333, hy333⟩ : ∃ y_ : List (S41), y_ = (([(⟨((rd_T41 l1 x10_2).f0), ((rd_T41 l1 x10_2).f1), ((rd_T41 l1 x10_2).f2)⟩ : S41)] : List (S41))) := ⟨_, rfl⟩
                          replace H : ((journal_Apply.f x7_2 y333).bind fun bt336 => (if bt336.2 = 0 then (ringworklaw25_JournalUndone.l0 k3 l0 l1 a2 bt336.1 y330 (wrap64 (x10_2 + 1))) else (if bt336.2 = 1 then ((ringworklaw25_awake.f).bind fun t340 => (some t340)) else (if bt336.2 = 4 then ((ringworklaw25_awake.f).bind fun t341 => (some t341)) else (some false))))) = some r := by first | (rw [hy333]; with_reducible exact H) | (have H2_ := (Option.bind_some _ _).symm.trans H; rw [hy333]; with_reducible exact H2_) | (have H2_ := (Option.bind_some _ _).symm.trans H; with_reducible exact H2_) | with_reducible exact H | (rw [hy333]; exact H) | exact H
                          have Ny333 := Aside0.mk hy333
                          clear hy333
                          replace H := Option.bind_eq_some_iff.mp H
                          obtain ⟨⟨t336, t337⟩, A370, H⟩ := H
                          replace H : (if t337 = 0 then (ringworklaw25_JournalUndone.l0 k3 l0 l1 a2 t336 y330 (wrap64 (x10_2 + 1))) else (if t337 = 1 then ((ringworklaw25_awake.f).bind fun t340 => (some t340)) else (if t337 = 4 then ((ringworklaw25_awake.f).bind fun t341 => (some t341)) else (some false)))) = some r := H
                          have A37 := Aside0.mk A370
                          clear A370
                          by_cases c38 : t337 = 0
                          · rw [if_pos c38] at H
                            have c38b0 : (t337 == 0) = true := beq_iff_eq.mpr c38
                            have c38b1 : (t337 != 0) = false := bne_eq_false_iff_eq.mpr c38
                            clear c38
                            have H' := Aside0.mk H
                            clear H
                            obtain ⟨Ao39, co39, eo39⟩ := Kd.R_slice HO_7.out
                            subst eo39
                            have hnb40 := NB324_323.out
                            have hnc40 := NB323_324.out
                            have hcz41_0 : wr.cell? ⟨gb324, 0, none⟩ = some (.int .i64 2) := (blk_cell BK324.out 0).trans rfl
                            have hcz41_1 : wr.cell? ⟨gb324, 1, none⟩ = some (.int .i64 a2) := (blk_cell BK324.out 1).trans rfl
                            have hcz41_2 : wr.cell? ⟨gb324, 2, none⟩ = some (.string ((rd_T41 l1 x10_2).f0)) := (blk_cell BK324.out 2).trans rfl
                            have hcz41_3 : wr.cell? ⟨gb324, 3, none⟩ = some (.bool x325003_3) := (blk_cell BK324.out 3).trans rfl
                            have hcz41_4 : wr.cell? ⟨gb324, 4, none⟩ = some (.string x325004_3) := (blk_cell BK324.out 4).trans rfl
                            have hfz41_0 := blk_frozen BK324.out 0
                            have hfz41_1 := blk_frozen BK324.out 1
                            have hfz41_2 := blk_frozen BK324.out 2
                            have hfz41_3 := blk_frozen BK324.out 3
                            have hfz41_4 := blk_frozen BK324.out 4
                            have hcz42_0 : wr.cell? ⟨gb323, 0, none⟩ = some (.string ((rd_T41 l1 x10_2).f0)) := (blk_cell BK323.out 0).trans rfl
                            have hcz42_1 : wr.cell? ⟨gb323, 1, none⟩ = some (.bool ((rd_T41 l1 x10_2).f1)) := (blk_cell BK323.out 1).trans rfl
                            have hcz42_2 : wr.cell? ⟨gb323, 2, none⟩ = some (.string ((rd_T41 l1 x10_2).f2)) := (blk_cell BK323.out 2).trans rfl
                            have hfz42_0 := blk_frozen BK323.out 0
                            have hfz42_1 := blk_frozen BK323.out 1
                            have hfz42_2 := blk_frozen BK323.out 2
                            go_wp2_with (first | ((with_reducible refine gate_dst (N := 94) rfl ?_); (try (refine gate_guard (by rfl) ?_; dsimp only)); refine Kd.R_lit k39 _ 39 ?hg (N := 94) ?hd (xs := ([(⟨2, a2, ((rd_T41 l1 x10_2).f0), x325003_3, x325004_3⟩ : S39), (⟨3, a2, ((rd_T41 l1 x10_2).f0), ((rd_T41 l1 x10_2).f1), ((rd_T41 l1 x10_2).f2)⟩ : S39)] : List (S39))) (inner := [.int .i64 2, .int .i64 a2, .string ((rd_T41 l1 x10_2).f0), .bool x325003_3, .string x325004_3, .int .i64 3, .int .i64 a2, .string ((rd_T41 l1 x10_2).f0), .bool ((rd_T41 l1 x10_2).f1), .string ((rd_T41 l1 x10_2).f2)]) (ok := fun _ => True) (okp := fun _ => True) ?hr ?hp (fun _ hk => hk) trivial (Below.refl _ _) (Nat.le_refl _) (by simp) ?_; (case hd => rfl); (case hg => rfl); (case hr => first | (go_simp; done) | (go_simp; rfl)); (case hp => exact (Reps.c5 (show Kd.M k39 _ _ _ (⟨2, a2, ((rd_T41 l1 x10_2).f0), x325003_3, x325004_3⟩ : S39) [.int .i64 2, .int .i64 a2, .string ((rd_T41 l1 x10_2).f0), .bool x325003_3, .string x325004_3] from (k39_mkM _ _ _ (⟨2, a2, ((rd_T41 l1 x10_2).f0), x325003_3, x325004_3⟩ : S39) )) (Reps.c5 (show Kd.M k39 _ _ _ (⟨3, a2, ((rd_T41 l1 x10_2).f0), ((rd_T41 l1 x10_2).f1), ((rd_T41 l1 x10_2).f2)⟩ : S39) [.int .i64 3, .int .i64 a2, .string ((rd_T41 l1 x10_2).f0), .bool ((rd_T41 l1 x10_2).f1), .string ((rd_T41 l1 x10_2).f2)] from (k39_mkM _ _ _ (⟨3, a2, ((rd_T41 l1 x10_2).f0), ((rd_T41 l1 x10_2).f1), ((rd_T41 l1 x10_2).f2)⟩ : S39) )) (Reps.none _ _)))); intro v328 w43 ho44 hb hg_ hnew_; clear hg_ hnew_; (first | rw [← Ny327.out] at ho44 | (simp only [Int.reduceToNat] at ho44; rw [← Ny327.out] at ho44)); have n0_ := Aside0.mk (Kd.R_below (by (with_reducible repeat (first | apply Kd.R_alloc | apply Kd.R_drewN | apply Kd.R_drew)); exact HO_7.out) hb); have n1_ := Aside0.mk (Kd.R_elder' (by (with_reducible repeat (first | apply Kd.R_alloc | apply Kd.R_drewN | apply Kd.R_drew)); exact HO_9.out) (Kd.R_base ho44) hb); have n2_ := Aside0.mk (Kd.R_lower (Kd.R_newB (Kd.R_new' ho44 (Kd.R_lt (by (with_reducible repeat (first | apply Kd.R_alloc | apply Kd.R_drewN | apply Kd.R_drew)); exact HO_9.out))) (g := gb324) (o := .cells #[.int .i64 2, .int .i64 a2, .string ((rd_T41 l1 x10_2).f0), .bool x325003_3, .string x325004_3] 39 (0, 0)) (by (with_reducible repeat (first | refine blk_drewN ?_ _ | refine blk_drew ?_ | refine blk_alloc ?_ _)); exact BK324.out)) (below_size (by repeat (first | (with_reducible first | exact HB.out | apply below_alloc | apply pw_below_drewN | apply below_drew1 | refine below_set ?_ GE323.out | refine below_set ?_ GE324.out) | exact HB.out)))); have n3_ := Aside0.mk (blk_below (g := gb323) (o := .cells #[.string ((rd_T41 l1 x10_2).f0), .bool ((rd_T41 l1 x10_2).f1), .string ((rd_T41 l1 x10_2).f2)] 41 (0, 0)) (by (with_reducible repeat (first | refine blk_drewN ?_ _ | refine blk_drew ?_ | refine blk_alloc ?_ _)); exact BK323.out) hb); have n4_ := Aside0.mk (blk_below (g := gb324) (o := .cells #[.int .i64 2, .int .i64 a2, .string ((rd_T41 l1 x10_2).f0), .bool x325003_3, .string x325004_3] 39 (0, 0)) (by (with_reducible repeat (first | refine blk_drewN ?_ _ | refine blk_drew ?_ | refine blk_alloc ?_ _)); exact BK324.out) hb); have n5_ := Aside0.mk (below_step (by repeat (first | (with_reducible first | exact HB.out | apply below_alloc | apply pw_below_drewN | apply below_drew1 | refine below_set ?_ GE323.out | refine below_set ?_ GE324.out) | exact HB.out)) hb); clear HO_7; clear HO_9; clear BK323; clear BK324; clear HB; have HO_7 := n0_; have HO_9 := n1_; have HO329 := n2_; have BK323 := n3_; have BK324 := n4_; have HB := n5_; clear n0_ n1_ n2_ n3_ n4_ n5_; clear hb ho44; obtain ⟨Ao46, co46, eo46⟩ := Kd.R_slice HO329.out; subst eo46) | ((with_reducible refine gate_builtin (b := .append) (xs := #[.tmp 84, .tmp 94]) rfl ?_); (try (refine gate_guard (by rfl) ?_; dsimp only)); at_builtin; refine Kd.R_append_rows k39 (w0 := w) w.heap.size rfl (.tmp 84) (.tmp 94) 23 39 (.agg #[(.int .i64 0), (.int .i64 0), (.string ⟨#[]⟩), (.bool false), (.string ⟨#[]⟩)]) 56 rfl Try.underlying23 info39 rfl (by decide) (by omega) u9 x9_2 y327 _ _ _ (fun k_ => some k_ ≠ (.slice Ao46 y327.length co46 : Value).ownBlock ∧ k_ ≠ gb324) (fun _ => False) rfl rfl ?aO ?aR (fun _ _ h => h) (fun _ h => h.elim) ?aF ?aB ?aS ?aL ?_; (case aR => repeat (first | exact (Kd.R_reads' HO329.out).2.2 | (with_reducible refine Kd.C_alloc ?_ _) | (with_reducible refine Kd.C_drewN ?_ _) | (with_reducible refine Kd.C_drew ?_))); (case aB => exact (by repeat (first | (with_reducible first | exact HB.out | apply below_alloc | apply pw_below_drewN | apply below_drew1 | refine below_set ?_ GE323.out | refine below_set ?_ GE324.out) | exact HB.out))); (case aF => exact (fun k_ hk => ⟨Kd.fresh' (Kd.R_lt (by (with_reducible repeat (first | apply Kd.R_alloc | apply Kd.R_drewN | apply Kd.R_drew)); exact HO329.out)) k_ hk, Kd.freshB (g := gb324) (o := .cells #[.int .i64 2, .int .i64 a2, .string ((rd_T41 l1 x10_2).f0), .bool x325003_3, .string x325004_3] 39 (0, 0)) (by (with_reducible repeat (first | refine blk_drewN ?_ _ | refine blk_drew ?_ | refine blk_alloc ?_ _)); exact BK324.out) k_ hk⟩)); (case aO => exact (by (with_reducible repeat (first | apply Kd.R_alloc | apply Kd.R_drewN | apply Kd.R_drew)); exact Kd.R_mono HO_9.out (fun _ hk => ⟨hk.2, hk.1⟩))); (case aS => exact (below_size (by repeat (first | (with_reducible first | exact HB.out | apply below_alloc | apply pw_below_drewN | apply below_drew1 | refine below_set ?_ GE323.out | refine below_set ?_ GE324.out) | exact HB.out)))); (case aL => have := LMc36.out; omega); intro v331 w45 ho hb hg hat; rw [← Ny330.out] at ho; have n0_ := Aside0.mk (Kd.R_over' (by (with_reducible repeat (first | apply Kd.R_alloc | apply Kd.R_drewN | apply Kd.R_drew)); exact HO_7.out) (Kd.R_typed (by (with_reducible repeat (first | apply Kd.R_alloc | apply Kd.R_drewN | apply Kd.R_drew)); exact HO_9.out)) (by decide) hg); have n1_ := Aside0.mk (blk_grown (g := gb323) (o := .cells #[.string ((rd_T41 l1 x10_2).f0), .bool ((rd_T41 l1 x10_2).f1), .string ((rd_T41 l1 x10_2).f2)] 41 (0, 0)) (by (with_reducible repeat (first | refine blk_drewN ?_ _ | refine blk_drew ?_ | refine blk_alloc ?_ _)); exact BK323.out) hg (Kd.R_ne HO_9.out BK323.out (by decide))); have n2_ := Aside0.mk (blk_grown (g := gb324) (o := .cells #[.int .i64 2, .int .i64 a2, .string ((rd_T41 l1 x10_2).f0), .bool x325003_3, .string x325004_3] 39 (0, 0)) (by (with_reducible repeat (first | refine blk_drewN ?_ _ | refine blk_drew ?_ | refine blk_alloc ?_ _)); exact BK324.out) hg (Kd.R_away HO_9.out (fun _ hk => hk.1))); have n3_ := Aside0.mk (Kd.R_after (ok := (fun k_ => k_ ≠ gb324)) (by (with_reducible repeat (first | apply Kd.R_alloc | apply Kd.R_drewN | apply Kd.R_drew)); exact Kd.R_mono HO329.out (fun _ hk => ⟨hk.2, hk.1.2⟩)) hg hat); have n4_ := Aside0.mk (hb); have n5_ := Aside0.mk (ho); clear HO_7; clear BK323; clear BK324; clear HO329; clear HB; clear HO_9; have HO_7 := n0_; have BK323 := n1_; have BK324 := n2_; have HO329 := n3_; have HB := n4_; have HO332 := n5_; clear n0_ n1_ n2_ n3_ n4_ n5_; clear ho hb hg hat; have hcz47_0 : w45.cell? ⟨gb323, 0, none⟩ = some (.string ((rd_T41 l1 x10_2).f0)) := (blk_cell BK323.out 0).trans rfl; have hcz47_1 : w45.cell? ⟨gb323, 1, none⟩ = some (.bool ((rd_T41 l1 x10_2).f1)) := (blk_cell BK323.out 1).trans rfl; have hcz47_2 : w45.cell? ⟨gb323, 2, none⟩ = some (.string ((rd_T41 l1 x10_2).f2)) := (blk_cell BK323.out 2).trans rfl; have hfz47_0 := blk_frozen BK323.out 0; have hfz47_1 := blk_frozen BK323.out 1; have hfz47_2 := blk_frozen BK323.out 2) | ((with_reducible refine gate_dst (N := 99) rfl ?_); (try (refine gate_guard (by rfl) ?_; dsimp only)); refine Kd.R_lit k41 _ 41 ?hg (N := 99) ?hd (xs := ([(⟨((rd_T41 l1 x10_2).f0), ((rd_T41 l1 x10_2).f1), ((rd_T41 l1 x10_2).f2)⟩ : S41)] : List (S41))) (inner := [.string ((rd_T41 l1 x10_2).f0), .bool ((rd_T41 l1 x10_2).f1), .string ((rd_T41 l1 x10_2).f2)]) (ok := fun _ => True) (okp := fun _ => True) ?hr ?hp (fun _ hk => hk) trivial (Below.refl _ _) (Nat.le_refl _) (by simp) ?_; (case hd => rfl); (case hg => rfl); (case hr => first | (go_simp; done) | (go_simp; rfl)); (case hp => exact (Reps.c3 (show Kd.M k41 _ _ _ (⟨((rd_T41 l1 x10_2).f0), ((rd_T41 l1 x10_2).f1), ((rd_T41 l1 x10_2).f2)⟩ : S41) [.string ((rd_T41 l1 x10_2).f0), .bool ((rd_T41 l1 x10_2).f1), .string ((rd_T41 l1 x10_2).f2)] from (k41_mkM _ _ _ (⟨((rd_T41 l1 x10_2).f0), ((rd_T41 l1 x10_2).f1), ((rd_T41 l1 x10_2).f2)⟩ : S41) )) (Reps.none _ _))); intro v334 w48 ho49 hb hg_ hnew_; clear hg_ hnew_; (first | rw [← Ny333.out] at ho49 | (simp only [Int.reduceToNat] at ho49; rw [← Ny333.out] at ho49)); have n0_ := Aside0.mk (Kd.R_elder' (by (with_reducible repeat (first | apply Kd.R_alloc | apply Kd.R_drewN | apply Kd.R_drew)); exact HO_7.out) (Kd.R_base ho49) hb); have n1_ := Aside0.mk (Kd.R_below (by (with_reducible repeat (first | apply Kd.R_alloc | apply Kd.R_drewN | apply Kd.R_drew)); exact HO329.out) hb); have n2_ := Aside0.mk (Kd.R_below (by (with_reducible repeat (first | apply Kd.R_alloc | apply Kd.R_drewN | apply Kd.R_drew)); exact HO332.out) hb); have n3_ := Aside0.mk (Kd.R_lower (Kd.R_newB (Kd.R_new' ho49 (Kd.R_lt (by (with_reducible repeat (first | apply Kd.R_alloc | apply Kd.R_drewN | apply Kd.R_drew)); exact HO_7.out))) (g := gb323) (o := .cells #[.string ((rd_T41 l1 x10_2).f0), .bool ((rd_T41 l1 x10_2).f1), .string ((rd_T41 l1 x10_2).f2)] 41 (0, 0)) (by (with_reducible repeat (first | refine blk_drewN ?_ _ | refine blk_drew ?_ | refine blk_alloc ?_ _)); exact BK323.out)) (below_size (by repeat (first | (with_reducible first | exact HB.out | apply below_alloc | apply pw_below_drewN | apply below_drew1 | refine below_set ?_ GE323.out | refine below_set ?_ GE324.out) | exact HB.out)))); have n4_ := Aside0.mk (blk_below (g := gb323) (o := .cells #[.string ((rd_T41 l1 x10_2).f0), .bool ((rd_T41 l1 x10_2).f1), .string ((rd_T41 l1 x10_2).f2)] 41 (0, 0)) (by (with_reducible repeat (first | refine blk_drewN ?_ _ | refine blk_drew ?_ | refine blk_alloc ?_ _)); exact BK323.out) hb); have n5_ := Aside0.mk (blk_below (g := gb324) (o := .cells #[.int .i64 2, .int .i64 a2, .string ((rd_T41 l1 x10_2).f0), .bool x325003_3, .string x325004_3] 39 (0, 0)) (by (with_reducible repeat (first | refine blk_drewN ?_ _ | refine blk_drew ?_ | refine blk_alloc ?_ _)); exact BK324.out) hb); have n6_ := Aside0.mk (below_step (by repeat (first | (with_reducible first | exact HB.out | apply below_alloc | apply pw_below_drewN | apply below_drew1 | refine below_set ?_ GE323.out | refine below_set ?_ GE324.out) | exact HB.out)) hb); clear HO_7; clear HO329; clear HO332; clear BK323; clear BK324; clear HB; have HO_7 := n0_; have HO329 := n1_; have HO332 := n2_; have HO335 := n3_; have BK323 := n4_; have BK324 := n5_; have HB := n6_; clear n0_ n1_ n2_ n3_ n4_ n5_ n6_; clear hb ho49; obtain ⟨Ao50, co50, eo50⟩ := Kd.R_slice HO335.out; subst eo50) | ((with_reducible refine gate_callee (f := 20) rfl ?_); refine goesL_ (some 100) rfl rfl Try.func20 (by kernel_rfl) rfl #[.slice Ao39 x7_2.length co39, .slice Ao50 y333.length co50] rfl (by (try simp only [List.map_toArray, List.map_cons, List.map_nil]); first | done | rfl | (simp only [List.length_drop, List.length_take]; rfl)) ?_; (with_reducible refine (journal_Apply.calls _ _ x7_2 _ _ y333 t336 t337 _ ?side1 ?side2 ?side3 ?side4 A37.out).mono ?_); (case side1 => repeat (first | exact (Kd.R_reads' HO_7.out).2.2 | (with_reducible refine Kd.C_alloc ?_ _) | (with_reducible refine Kd.C_drewN ?_ _) | (with_reducible refine Kd.C_drew ?_))); (case side2 => exact (Kd.R_reads' HO_7.out).2.1); (case side3 => repeat (first | exact (Kd.R_reads' HO335.out).2.2 | (with_reducible refine Kd.C_alloc ?_ _) | (with_reducible refine Kd.C_drewN ?_ _) | (with_reducible refine Kd.C_drew ?_))); (case side4 => exact (Kd.R_reads' HO335.out).2.1); rintro e w51 ⟨v338, rfl, ho0, hb⟩; refine ⟨_, rfl, ?_⟩; have n0_ := Aside0.mk (Kd.R_elder' (by (with_reducible repeat (first | apply Kd.R_alloc | apply Kd.R_drewN | apply Kd.R_drew)); exact HO_7.out) (Kd.R_base ho0) hb); have n1_ := Aside0.mk (Kd.R_below (by (with_reducible repeat (first | apply Kd.R_alloc | apply Kd.R_drewN | apply Kd.R_drew)); exact HO329.out) hb); have n2_ := Aside0.mk (Kd.R_below (by (with_reducible repeat (first | apply Kd.R_alloc | apply Kd.R_drewN | apply Kd.R_drew)); exact HO332.out) hb); have n3_ := Aside0.mk (Kd.R_elder' (by (with_reducible repeat (first | apply Kd.R_alloc | apply Kd.R_drewN | apply Kd.R_drew)); exact HO335.out) (Kd.R_base ho0) hb); have n4_ := Aside0.mk (Kd.R_lower (Kd.R_newB (Kd.R_new' (Kd.R_new' ho0 (Kd.R_lt (by (with_reducible repeat (first | apply Kd.R_alloc | apply Kd.R_drewN | apply Kd.R_drew)); exact HO_7.out))) (Kd.R_lt (by (with_reducible repeat (first | apply Kd.R_alloc | apply Kd.R_drewN | apply Kd.R_drew)); exact HO335.out))) (g := gb323) (o := .cells #[.string ((rd_T41 l1 x10_2).f0), .bool ((rd_T41 l1 x10_2).f1), .string ((rd_T41 l1 x10_2).f2)] 41 (0, 0)) (by (with_reducible repeat (first | refine blk_drewN ?_ _ | refine blk_drew ?_ | refine blk_alloc ?_ _)); exact BK323.out)) (below_size (by repeat (first | (with_reducible first | exact HB.out | apply below_alloc | apply pw_below_drewN | apply below_drew1 | refine below_set ?_ GE323.out | refine below_set ?_ GE324.out) | exact HB.out)))); have n5_ := Aside0.mk (blk_below (g := gb323) (o := .cells #[.string ((rd_T41 l1 x10_2).f0), .bool ((rd_T41 l1 x10_2).f1), .string ((rd_T41 l1 x10_2).f2)] 41 (0, 0)) (by (with_reducible repeat (first | refine blk_drewN ?_ _ | refine blk_drew ?_ | refine blk_alloc ?_ _)); exact BK323.out) hb); have n6_ := Aside0.mk (blk_below (g := gb324) (o := .cells #[.int .i64 2, .int .i64 a2, .string ((rd_T41 l1 x10_2).f0), .bool x325003_3, .string x325004_3] 39 (0, 0)) (by (with_reducible repeat (first | refine blk_drewN ?_ _ | refine blk_drew ?_ | refine blk_alloc ?_ _)); exact BK324.out) hb); have n7_ := Aside0.mk (below_step (by repeat (first | (with_reducible first | exact HB.out | apply below_alloc | apply pw_below_drewN | apply below_drew1 | refine below_set ?_ GE323.out | refine below_set ?_ GE324.out) | exact HB.out)) hb); clear HO_7; clear HO329; clear HO332; clear HO335; clear BK323; clear BK324; clear HB; have HO_7 := n0_; have HO329 := n1_; have HO332 := n2_; have HO335 := n3_; have HO339 := n4_; have BK323 := n5_; have BK324 := n6_; have HB := n7_; clear n0_ n1_ n2_ n3_ n4_ n5_ n6_ n7_; (try clear hb); (try clear hb2); (try clear hk); (try clear hi); (try clear ho0)))
                            go_roundg k3
                            case measure => have := HJ3.out; have := HK2.out; have := HK3.out; omega
                            case rel => exact ⟨(t336), (y330), (wrap64 (x10_2 + 1)), (by first | rfl | (simp; done) | (simp [*]; done)), H', ⟨by have := HJ3.out; have := HK2.out; have := HK3.out; omega⟩, ⟨by (with_reducible repeat (first | apply Kd.R_alloc | apply Kd.R_drewN | apply Kd.R_drew)); exact Kd.R_mono HO339.out (fun _ hk => trivial)⟩, ⟨by (with_reducible repeat (first | apply Kd.R_alloc | apply Kd.R_drewN | apply Kd.R_drew)); exact Kd.R_mono HO332.out (fun _ hk => trivial)⟩, ⟨by repeat (first | (with_reducible first | exact HB.out | apply below_alloc | apply pw_below_drewN | apply below_drew1 | refine below_set ?_ GE323.out | refine below_set ?_ GE324.out) | exact HB.out)⟩⟩
                          · rw [if_neg c38] at H
                            have c38b0 : (t337 == 0) = false := beq_eq_false_iff_ne.mpr c38
                            have c38b1 : (t337 != 0) = true := bne_iff_ne.mpr c38
                            by_cases c52 : t337 = 1
                            · rw [if_pos c52] at H
                              have c52b0 : (t337 == 1) = true := beq_iff_eq.mpr c52
                              have c52b1 : (t337 != 1) = false := bne_eq_false_iff_eq.mpr c52
                              clear c52
                              replace H := Option.bind_eq_some_iff.mp H
                              obtain ⟨t340, A530, H⟩ := H
                              replace H : (some t340) = some r := H
                              have A53 := Aside0.mk A530
                              clear A530
                              obtain rfl := Option.some.inj H
                              obtain ⟨Ao54, co54, eo54⟩ := Kd.R_slice HO_7.out
                              subst eo54
                              have hnb55 := NB324_323.out
                              have hnc55 := NB323_324.out
                              have hcz56_0 : wr.cell? ⟨gb324, 0, none⟩ = some (.int .i64 2) := (blk_cell BK324.out 0).trans rfl
                              have hcz56_1 : wr.cell? ⟨gb324, 1, none⟩ = some (.int .i64 a2) := (blk_cell BK324.out 1).trans rfl
                              have hcz56_2 : wr.cell? ⟨gb324, 2, none⟩ = some (.string ((rd_T41 l1 x10_2).f0)) := (blk_cell BK324.out 2).trans rfl
                              have hcz56_3 : wr.cell? ⟨gb324, 3, none⟩ = some (.bool x325003_3) := (blk_cell BK324.out 3).trans rfl
                              have hcz56_4 : wr.cell? ⟨gb324, 4, none⟩ = some (.string x325004_3) := (blk_cell BK324.out 4).trans rfl
                              have hfz56_0 := blk_frozen BK324.out 0
                              have hfz56_1 := blk_frozen BK324.out 1
                              have hfz56_2 := blk_frozen BK324.out 2
                              have hfz56_3 := blk_frozen BK324.out 3
                              have hfz56_4 := blk_frozen BK324.out 4
                              have hcz57_0 : wr.cell? ⟨gb323, 0, none⟩ = some (.string ((rd_T41 l1 x10_2).f0)) := (blk_cell BK323.out 0).trans rfl
                              have hcz57_1 : wr.cell? ⟨gb323, 1, none⟩ = some (.bool ((rd_T41 l1 x10_2).f1)) := (blk_cell BK323.out 1).trans rfl
                              have hcz57_2 : wr.cell? ⟨gb323, 2, none⟩ = some (.string ((rd_T41 l1 x10_2).f2)) := (blk_cell BK323.out 2).trans rfl
                              have hfz57_0 := blk_frozen BK323.out 0
                              have hfz57_1 := blk_frozen BK323.out 1
                              have hfz57_2 := blk_frozen BK323.out 2
                              go_wp2_with (first | ((with_reducible refine gate_dst (N := 94) rfl ?_); (try (refine gate_guard (by rfl) ?_; dsimp only)); refine Kd.R_lit k39 _ 39 ?hg (N := 94) ?hd (xs := ([(⟨2, a2, ((rd_T41 l1 x10_2).f0), x325003_3, x325004_3⟩ : S39), (⟨3, a2, ((rd_T41 l1 x10_2).f0), ((rd_T41 l1 x10_2).f1), ((rd_T41 l1 x10_2).f2)⟩ : S39)] : List (S39))) (inner := [.int .i64 2, .int .i64 a2, .string ((rd_T41 l1 x10_2).f0), .bool x325003_3, .string x325004_3, .int .i64 3, .int .i64 a2, .string ((rd_T41 l1 x10_2).f0), .bool ((rd_T41 l1 x10_2).f1), .string ((rd_T41 l1 x10_2).f2)]) (ok := fun _ => True) (okp := fun _ => True) ?hr ?hp (fun _ hk => hk) trivial (Below.refl _ _) (Nat.le_refl _) (by simp) ?_; (case hd => rfl); (case hg => rfl); (case hr => first | (go_simp; done) | (go_simp; rfl)); (case hp => exact (Reps.c5 (show Kd.M k39 _ _ _ (⟨2, a2, ((rd_T41 l1 x10_2).f0), x325003_3, x325004_3⟩ : S39) [.int .i64 2, .int .i64 a2, .string ((rd_T41 l1 x10_2).f0), .bool x325003_3, .string x325004_3] from (k39_mkM _ _ _ (⟨2, a2, ((rd_T41 l1 x10_2).f0), x325003_3, x325004_3⟩ : S39) )) (Reps.c5 (show Kd.M k39 _ _ _ (⟨3, a2, ((rd_T41 l1 x10_2).f0), ((rd_T41 l1 x10_2).f1), ((rd_T41 l1 x10_2).f2)⟩ : S39) [.int .i64 3, .int .i64 a2, .string ((rd_T41 l1 x10_2).f0), .bool ((rd_T41 l1 x10_2).f1), .string ((rd_T41 l1 x10_2).f2)] from (k39_mkM _ _ _ (⟨3, a2, ((rd_T41 l1 x10_2).f0), ((rd_T41 l1 x10_2).f1), ((rd_T41 l1 x10_2).f2)⟩ : S39) )) (Reps.none _ _)))); intro v328 w58 ho59 hb hg_ hnew_; clear hg_ hnew_; (first | rw [← Ny327.out] at ho59 | (simp only [Int.reduceToNat] at ho59; rw [← Ny327.out] at ho59)); have n0_ := Aside0.mk (Kd.R_below (by (with_reducible repeat (first | apply Kd.R_alloc | apply Kd.R_drewN | apply Kd.R_drew)); exact HO_7.out) hb); have n1_ := Aside0.mk (Kd.R_elder' (by (with_reducible repeat (first | apply Kd.R_alloc | apply Kd.R_drewN | apply Kd.R_drew)); exact HO_9.out) (Kd.R_base ho59) hb); have n2_ := Aside0.mk (Kd.R_lower (Kd.R_newB (Kd.R_new' ho59 (Kd.R_lt (by (with_reducible repeat (first | apply Kd.R_alloc | apply Kd.R_drewN | apply Kd.R_drew)); exact HO_9.out))) (g := gb324) (o := .cells #[.int .i64 2, .int .i64 a2, .string ((rd_T41 l1 x10_2).f0), .bool x325003_3, .string x325004_3] 39 (0, 0)) (by (with_reducible repeat (first | refine blk_drewN ?_ _ | refine blk_drew ?_ | refine blk_alloc ?_ _)); exact BK324.out)) (below_size (by repeat (first | (with_reducible first | exact HB.out | apply below_alloc | apply pw_below_drewN | apply below_drew1 | refine below_set ?_ GE323.out | refine below_set ?_ GE324.out) | exact HB.out)))); have n3_ := Aside0.mk (blk_below (g := gb323) (o := .cells #[.string ((rd_T41 l1 x10_2).f0), .bool ((rd_T41 l1 x10_2).f1), .string ((rd_T41 l1 x10_2).f2)] 41 (0, 0)) (by (with_reducible repeat (first | refine blk_drewN ?_ _ | refine blk_drew ?_ | refine blk_alloc ?_ _)); exact BK323.out) hb); have n4_ := Aside0.mk (blk_below (g := gb324) (o := .cells #[.int .i64 2, .int .i64 a2, .string ((rd_T41 l1 x10_2).f0), .bool x325003_3, .string x325004_3] 39 (0, 0)) (by (with_reducible repeat (first | refine blk_drewN ?_ _ | refine blk_drew ?_ | refine blk_alloc ?_ _)); exact BK324.out) hb); have n5_ := Aside0.mk (below_step (by repeat (first | (with_reducible first | exact HB.out | apply below_alloc | apply pw_below_drewN | apply below_drew1 | refine below_set ?_ GE323.out | refine below_set ?_ GE324.out) | exact HB.out)) hb); clear HO_7; clear HO_9; clear BK323; clear BK324; clear HB; have HO_7 := n0_; have HO_9 := n1_; have HO329 := n2_; have BK323 := n3_; have BK324 := n4_; have HB := n5_; clear n0_ n1_ n2_ n3_ n4_ n5_; clear hb ho59; obtain ⟨Ao61, co61, eo61⟩ := Kd.R_slice HO329.out; subst eo61) | ((with_reducible refine gate_builtin (b := .append) (xs := #[.tmp 84, .tmp 94]) rfl ?_); (try (refine gate_guard (by rfl) ?_; dsimp only)); at_builtin; refine Kd.R_append_rows k39 (w0 := w) w.heap.size rfl (.tmp 84) (.tmp 94) 23 39 (.agg #[(.int .i64 0), (.int .i64 0), (.string ⟨#[]⟩), (.bool false), (.string ⟨#[]⟩)]) 56 rfl Try.underlying23 info39 rfl (by decide) (by omega) u9 x9_2 y327 _ _ _ (fun k_ => some k_ ≠ (.slice Ao61 y327.length co61 : Value).ownBlock ∧ k_ ≠ gb324) (fun _ => False) rfl rfl ?aO ?aR (fun _ _ h => h) (fun _ h => h.elim) ?aF ?aB ?aS ?aL ?_; (case aR => repeat (first | exact (Kd.R_reads' HO329.out).2.2 | (with_reducible refine Kd.C_alloc ?_ _) | (with_reducible refine Kd.C_drewN ?_ _) | (with_reducible refine Kd.C_drew ?_))); (case aB => exact (by repeat (first | (with_reducible first | exact HB.out | apply below_alloc | apply pw_below_drewN | apply below_drew1 | refine below_set ?_ GE323.out | refine below_set ?_ GE324.out) | exact HB.out))); (case aF => exact (fun k_ hk => ⟨Kd.fresh' (Kd.R_lt (by (with_reducible repeat (first | apply Kd.R_alloc | apply Kd.R_drewN | apply Kd.R_drew)); exact HO329.out)) k_ hk, Kd.freshB (g := gb324) (o := .cells #[.int .i64 2, .int .i64 a2, .string ((rd_T41 l1 x10_2).f0), .bool x325003_3, .string x325004_3] 39 (0, 0)) (by (with_reducible repeat (first | refine blk_drewN ?_ _ | refine blk_drew ?_ | refine blk_alloc ?_ _)); exact BK324.out) k_ hk⟩)); (case aO => exact (by (with_reducible repeat (first | apply Kd.R_alloc | apply Kd.R_drewN | apply Kd.R_drew)); exact Kd.R_mono HO_9.out (fun _ hk => ⟨hk.2, hk.1⟩))); (case aS => exact (below_size (by repeat (first | (with_reducible first | exact HB.out | apply below_alloc | apply pw_below_drewN | apply below_drew1 | refine below_set ?_ GE323.out | refine below_set ?_ GE324.out) | exact HB.out)))); (case aL => have := LMc36.out; omega); intro v331 w60 ho hb hg hat; rw [← Ny330.out] at ho; have n0_ := Aside0.mk (Kd.R_over' (by (with_reducible repeat (first | apply Kd.R_alloc | apply Kd.R_drewN | apply Kd.R_drew)); exact HO_7.out) (Kd.R_typed (by (with_reducible repeat (first | apply Kd.R_alloc | apply Kd.R_drewN | apply Kd.R_drew)); exact HO_9.out)) (by decide) hg); have n1_ := Aside0.mk (blk_grown (g := gb323) (o := .cells #[.string ((rd_T41 l1 x10_2).f0), .bool ((rd_T41 l1 x10_2).f1), .string ((rd_T41 l1 x10_2).f2)] 41 (0, 0)) (by (with_reducible repeat (first | refine blk_drewN ?_ _ | refine blk_drew ?_ | refine blk_alloc ?_ _)); exact BK323.out) hg (Kd.R_ne HO_9.out BK323.out (by decide))); have n2_ := Aside0.mk (blk_grown (g := gb324) (o := .cells #[.int .i64 2, .int .i64 a2, .string ((rd_T41 l1 x10_2).f0), .bool x325003_3, .string x325004_3] 39 (0, 0)) (by (with_reducible repeat (first | refine blk_drewN ?_ _ | refine blk_drew ?_ | refine blk_alloc ?_ _)); exact BK324.out) hg (Kd.R_away HO_9.out (fun _ hk => hk.1))); have n3_ := Aside0.mk (Kd.R_after (ok := (fun k_ => k_ ≠ gb324)) (by (with_reducible repeat (first | apply Kd.R_alloc | apply Kd.R_drewN | apply Kd.R_drew)); exact Kd.R_mono HO329.out (fun _ hk => ⟨hk.2, hk.1.2⟩)) hg hat); have n4_ := Aside0.mk (hb); have n5_ := Aside0.mk (ho); clear HO_7; clear BK323; clear BK324; clear HO329; clear HB; clear HO_9; have HO_7 := n0_; have BK323 := n1_; have BK324 := n2_; have HO329 := n3_; have HB := n4_; have HO332 := n5_; clear n0_ n1_ n2_ n3_ n4_ n5_; clear ho hb hg hat; have hcz62_0 : w60.cell? ⟨gb323, 0, none⟩ = some (.string ((rd_T41 l1 x10_2).f0)) := (blk_cell BK323.out 0).trans rfl; have hcz62_1 : w60.cell? ⟨gb323, 1, none⟩ = some (.bool ((rd_T41 l1 x10_2).f1)) := (blk_cell BK323.out 1).trans rfl; have hcz62_2 : w60.cell? ⟨gb323, 2, none⟩ = some (.string ((rd_T41 l1 x10_2).f2)) := (blk_cell BK323.out 2).trans rfl; have hfz62_0 := blk_frozen BK323.out 0; have hfz62_1 := blk_frozen BK323.out 1; have hfz62_2 := blk_frozen BK323.out 2) | ((with_reducible refine gate_dst (N := 99) rfl ?_); (try (refine gate_guard (by rfl) ?_; dsimp only)); refine Kd.R_lit k41 _ 41 ?hg (N := 99) ?hd (xs := ([(⟨((rd_T41 l1 x10_2).f0), ((rd_T41 l1 x10_2).f1), ((rd_T41 l1 x10_2).f2)⟩ : S41)] : List (S41))) (inner := [.string ((rd_T41 l1 x10_2).f0), .bool ((rd_T41 l1 x10_2).f1), .string ((rd_T41 l1 x10_2).f2)]) (ok := fun _ => True) (okp := fun _ => True) ?hr ?hp (fun _ hk => hk) trivial (Below.refl _ _) (Nat.le_refl _) (by simp) ?_; (case hd => rfl); (case hg => rfl); (case hr => first | (go_simp; done) | (go_simp; rfl)); (case hp => exact (Reps.c3 (show Kd.M k41 _ _ _ (⟨((rd_T41 l1 x10_2).f0), ((rd_T41 l1 x10_2).f1), ((rd_T41 l1 x10_2).f2)⟩ : S41) [.string ((rd_T41 l1 x10_2).f0), .bool ((rd_T41 l1 x10_2).f1), .string ((rd_T41 l1 x10_2).f2)] from (k41_mkM _ _ _ (⟨((rd_T41 l1 x10_2).f0), ((rd_T41 l1 x10_2).f1), ((rd_T41 l1 x10_2).f2)⟩ : S41) )) (Reps.none _ _))); intro v334 w63 ho64 hb hg_ hnew_; clear hg_ hnew_; (first | rw [← Ny333.out] at ho64 | (simp only [Int.reduceToNat] at ho64; rw [← Ny333.out] at ho64)); have n0_ := Aside0.mk (Kd.R_elder' (by (with_reducible repeat (first | apply Kd.R_alloc | apply Kd.R_drewN | apply Kd.R_drew)); exact HO_7.out) (Kd.R_base ho64) hb); have n1_ := Aside0.mk (Kd.R_below (by (with_reducible repeat (first | apply Kd.R_alloc | apply Kd.R_drewN | apply Kd.R_drew)); exact HO329.out) hb); have n2_ := Aside0.mk (Kd.R_below (by (with_reducible repeat (first | apply Kd.R_alloc | apply Kd.R_drewN | apply Kd.R_drew)); exact HO332.out) hb); have n3_ := Aside0.mk (Kd.R_lower (Kd.R_newB (Kd.R_new' ho64 (Kd.R_lt (by (with_reducible repeat (first | apply Kd.R_alloc | apply Kd.R_drewN | apply Kd.R_drew)); exact HO_7.out))) (g := gb323) (o := .cells #[.string ((rd_T41 l1 x10_2).f0), .bool ((rd_T41 l1 x10_2).f1), .string ((rd_T41 l1 x10_2).f2)] 41 (0, 0)) (by (with_reducible repeat (first | refine blk_drewN ?_ _ | refine blk_drew ?_ | refine blk_alloc ?_ _)); exact BK323.out)) (below_size (by repeat (first | (with_reducible first | exact HB.out | apply below_alloc | apply pw_below_drewN | apply below_drew1 | refine below_set ?_ GE323.out | refine below_set ?_ GE324.out) | exact HB.out)))); have n4_ := Aside0.mk (blk_below (g := gb323) (o := .cells #[.string ((rd_T41 l1 x10_2).f0), .bool ((rd_T41 l1 x10_2).f1), .string ((rd_T41 l1 x10_2).f2)] 41 (0, 0)) (by (with_reducible repeat (first | refine blk_drewN ?_ _ | refine blk_drew ?_ | refine blk_alloc ?_ _)); exact BK323.out) hb); have n5_ := Aside0.mk (blk_below (g := gb324) (o := .cells #[.int .i64 2, .int .i64 a2, .string ((rd_T41 l1 x10_2).f0), .bool x325003_3, .string x325004_3] 39 (0, 0)) (by (with_reducible repeat (first | refine blk_drewN ?_ _ | refine blk_drew ?_ | refine blk_alloc ?_ _)); exact BK324.out) hb); have n6_ := Aside0.mk (below_step (by repeat (first | (with_reducible first | exact HB.out | apply below_alloc | apply pw_below_drewN | apply below_drew1 | refine below_set ?_ GE323.out | refine below_set ?_ GE324.out) | exact HB.out)) hb); clear HO_7; clear HO329; clear HO332; clear BK323; clear BK324; clear HB; have HO_7 := n0_; have HO329 := n1_; have HO332 := n2_; have HO335 := n3_; have BK323 := n4_; have BK324 := n5_; have HB := n6_; clear n0_ n1_ n2_ n3_ n4_ n5_ n6_; clear hb ho64; obtain ⟨Ao65, co65, eo65⟩ := Kd.R_slice HO335.out; subst eo65) | ((with_reducible refine gate_callee (f := 20) rfl ?_); refine goesL_ (some 100) rfl rfl Try.func20 (by kernel_rfl) rfl #[.slice Ao54 x7_2.length co54, .slice Ao65 y333.length co65] rfl (by (try simp only [List.map_toArray, List.map_cons, List.map_nil]); first | done | rfl | (simp only [List.length_drop, List.length_take]; rfl)) ?_; (with_reducible refine (journal_Apply.calls _ _ x7_2 _ _ y333 t336 t337 _ ?side1 ?side2 ?side3 ?side4 A37.out).mono ?_); (case side1 => repeat (first | exact (Kd.R_reads' HO_7.out).2.2 | (with_reducible refine Kd.C_alloc ?_ _) | (with_reducible refine Kd.C_drewN ?_ _) | (with_reducible refine Kd.C_drew ?_))); (case side2 => exact (Kd.R_reads' HO_7.out).2.1); (case side3 => repeat (first | exact (Kd.R_reads' HO335.out).2.2 | (with_reducible refine Kd.C_alloc ?_ _) | (with_reducible refine Kd.C_drewN ?_ _) | (with_reducible refine Kd.C_drew ?_))); (case side4 => exact (Kd.R_reads' HO335.out).2.1); rintro e w66 ⟨v338, rfl, ho0, hb⟩; refine ⟨_, rfl, ?_⟩; have n0_ := Aside0.mk (Kd.R_elder' (by (with_reducible repeat (first | apply Kd.R_alloc | apply Kd.R_drewN | apply Kd.R_drew)); exact HO_7.out) (Kd.R_base ho0) hb); have n1_ := Aside0.mk (Kd.R_below (by (with_reducible repeat (first | apply Kd.R_alloc | apply Kd.R_drewN | apply Kd.R_drew)); exact HO329.out) hb); have n2_ := Aside0.mk (Kd.R_below (by (with_reducible repeat (first | apply Kd.R_alloc | apply Kd.R_drewN | apply Kd.R_drew)); exact HO332.out) hb); have n3_ := Aside0.mk (Kd.R_elder' (by (with_reducible repeat (first | apply Kd.R_alloc | apply Kd.R_drewN | apply Kd.R_drew)); exact HO335.out) (Kd.R_base ho0) hb); have n4_ := Aside0.mk (Kd.R_lower (Kd.R_newB (Kd.R_new' (Kd.R_new' ho0 (Kd.R_lt (by (with_reducible repeat (first | apply Kd.R_alloc | apply Kd.R_drewN | apply Kd.R_drew)); exact HO_7.out))) (Kd.R_lt (by (with_reducible repeat (first | apply Kd.R_alloc | apply Kd.R_drewN | apply Kd.R_drew)); exact HO335.out))) (g := gb323) (o := .cells #[.string ((rd_T41 l1 x10_2).f0), .bool ((rd_T41 l1 x10_2).f1), .string ((rd_T41 l1 x10_2).f2)] 41 (0, 0)) (by (with_reducible repeat (first | refine blk_drewN ?_ _ | refine blk_drew ?_ | refine blk_alloc ?_ _)); exact BK323.out)) (below_size (by repeat (first | (with_reducible first | exact HB.out | apply below_alloc | apply pw_below_drewN | apply below_drew1 | refine below_set ?_ GE323.out | refine below_set ?_ GE324.out) | exact HB.out)))); have n5_ := Aside0.mk (blk_below (g := gb323) (o := .cells #[.string ((rd_T41 l1 x10_2).f0), .bool ((rd_T41 l1 x10_2).f1), .string ((rd_T41 l1 x10_2).f2)] 41 (0, 0)) (by (with_reducible repeat (first | refine blk_drewN ?_ _ | refine blk_drew ?_ | refine blk_alloc ?_ _)); exact BK323.out) hb); have n6_ := Aside0.mk (blk_below (g := gb324) (o := .cells #[.int .i64 2, .int .i64 a2, .string ((rd_T41 l1 x10_2).f0), .bool x325003_3, .string x325004_3] 39 (0, 0)) (by (with_reducible repeat (first | refine blk_drewN ?_ _ | refine blk_drew ?_ | refine blk_alloc ?_ _)); exact BK324.out) hb); have n7_ := Aside0.mk (below_step (by repeat (first | (with_reducible first | exact HB.out | apply below_alloc | apply pw_below_drewN | apply below_drew1 | refine below_set ?_ GE323.out | refine below_set ?_ GE324.out) | exact HB.out)) hb); clear HO_7; clear HO329; clear HO332; clear HO335; clear BK323; clear BK324; clear HB; have HO_7 := n0_; have HO329 := n1_; have HO332 := n2_; have HO335 := n3_; have HO339 := n4_; have BK323 := n5_; have BK324 := n6_; have HB := n7_; clear n0_ n1_ n2_ n3_ n4_ n5_ n6_ n7_; (try clear hb); (try clear hb2); (try clear hk); (try clear hi); (try clear ho0)) | (go_at_call 12; (with_reducible refine (ringworklaw25_awake.calls  t340 _ A53.out).mono ?_); rintro e w67 ⟨rfl, hb⟩; have n0_ := Aside0.mk (Kd.R_below (by (with_reducible repeat (first | apply Kd.R_alloc | apply Kd.R_drewN | apply Kd.R_drew)); exact HO_7.out) hb); have n1_ := Aside0.mk (Kd.R_below (by (with_reducible repeat (first | apply Kd.R_alloc | apply Kd.R_drewN | apply Kd.R_drew)); exact HO329.out) hb); have n2_ := Aside0.mk (Kd.R_below (by (with_reducible repeat (first | apply Kd.R_alloc | apply Kd.R_drewN | apply Kd.R_drew)); exact HO332.out) hb); have n3_ := Aside0.mk (Kd.R_below (by (with_reducible repeat (first | apply Kd.R_alloc | apply Kd.R_drewN | apply Kd.R_drew)); exact HO335.out) hb); have n4_ := Aside0.mk (Kd.R_below (by (with_reducible repeat (first | apply Kd.R_alloc | apply Kd.R_drewN | apply Kd.R_drew)); exact HO339.out) hb); have n5_ := Aside0.mk (blk_below (g := gb323) (o := .cells #[.string ((rd_T41 l1 x10_2).f0), .bool ((rd_T41 l1 x10_2).f1), .string ((rd_T41 l1 x10_2).f2)] 41 (0, 0)) (by (with_reducible repeat (first | refine blk_drewN ?_ _ | refine blk_drew ?_ | refine blk_alloc ?_ _)); exact BK323.out) hb); have n6_ := Aside0.mk (blk_below (g := gb324) (o := .cells #[.int .i64 2, .int .i64 a2, .string ((rd_T41 l1 x10_2).f0), .bool x325003_3, .string x325004_3] 39 (0, 0)) (by (with_reducible repeat (first | refine blk_drewN ?_ _ | refine blk_drew ?_ | refine blk_alloc ?_ _)); exact BK324.out) hb); have n7_ := Aside0.mk (below_step (by repeat (first | (with_reducible first | exact HB.out | apply below_alloc | apply pw_below_drewN | apply below_drew1 | refine below_set ?_ GE323.out | refine below_set ?_ GE324.out) | exact HB.out)) hb); clear HO_7; clear HO329; clear HO332; clear HO335; clear HO339; clear BK323; clear BK324; clear HB; have HO_7 := n0_; have HO329 := n1_; have HO332 := n2_; have HO335 := n3_; have HO339 := n4_; have BK323 := n5_; have BK324 := n6_; have HB := n7_; clear n0_ n1_ n2_ n3_ n4_ n5_ n6_ n7_; (try clear hb); (try clear hb2); (try clear hk); (try clear hi)))
                              go_ret
                              exact ⟨by first | rfl | (simp [errW_none, errW_some] <;> rfl) | (simp [*, errW_none, errW_some] <;> rfl), by repeat (first | (with_reducible first | exact HB.out | apply below_alloc | apply pw_below_drewN | apply below_drew1 | refine below_set ?_ GE323.out | refine below_set ?_ GE324.out) | exact HB.out)⟩
                            · rw [if_neg c52] at H
                              have c52b0 : (t337 == 1) = false := beq_eq_false_iff_ne.mpr c52
                              have c52b1 : (t337 != 1) = true := bne_iff_ne.mpr c52
                              by_cases c68 : t337 = 4
                              · rw [if_pos c68] at H
                                have c68b0 : (t337 == 4) = true := beq_iff_eq.mpr c68
                                have c68b1 : (t337 != 4) = false := bne_eq_false_iff_eq.mpr c68
                                clear c68
                                replace H := Option.bind_eq_some_iff.mp H
                                obtain ⟨t341, A690, H⟩ := H
                                replace H : (some t341) = some r := H
                                have A69 := Aside0.mk A690
                                clear A690
                                obtain rfl := Option.some.inj H
                                obtain ⟨Ao70, co70, eo70⟩ := Kd.R_slice HO_7.out
                                subst eo70
                                have hnb71 := NB324_323.out
                                have hnc71 := NB323_324.out
                                have hcz72_0 : wr.cell? ⟨gb324, 0, none⟩ = some (.int .i64 2) := (blk_cell BK324.out 0).trans rfl
                                have hcz72_1 : wr.cell? ⟨gb324, 1, none⟩ = some (.int .i64 a2) := (blk_cell BK324.out 1).trans rfl
                                have hcz72_2 : wr.cell? ⟨gb324, 2, none⟩ = some (.string ((rd_T41 l1 x10_2).f0)) := (blk_cell BK324.out 2).trans rfl
                                have hcz72_3 : wr.cell? ⟨gb324, 3, none⟩ = some (.bool x325003_3) := (blk_cell BK324.out 3).trans rfl
                                have hcz72_4 : wr.cell? ⟨gb324, 4, none⟩ = some (.string x325004_3) := (blk_cell BK324.out 4).trans rfl
                                have hfz72_0 := blk_frozen BK324.out 0
                                have hfz72_1 := blk_frozen BK324.out 1
                                have hfz72_2 := blk_frozen BK324.out 2
                                have hfz72_3 := blk_frozen BK324.out 3
                                have hfz72_4 := blk_frozen BK324.out 4
                                have hcz73_0 : wr.cell? ⟨gb323, 0, none⟩ = some (.string ((rd_T41 l1 x10_2).f0)) := (blk_cell BK323.out 0).trans rfl
                                have hcz73_1 : wr.cell? ⟨gb323, 1, none⟩ = some (.bool ((rd_T41 l1 x10_2).f1)) := (blk_cell BK323.out 1).trans rfl
                                have hcz73_2 : wr.cell? ⟨gb323, 2, none⟩ = some (.string ((rd_T41 l1 x10_2).f2)) := (blk_cell BK323.out 2).trans rfl
                                have hfz73_0 := blk_frozen BK323.out 0
                                have hfz73_1 := blk_frozen BK323.out 1
                                have hfz73_2 := blk_frozen BK323.out 2
                                go_wp2_with (first | ((with_reducible refine gate_dst (N := 94) rfl ?_); (try (refine gate_guard (by rfl) ?_; dsimp only)); refine Kd.R_lit k39 _ 39 ?hg (N := 94) ?hd (xs := ([(⟨2, a2, ((rd_T41 l1 x10_2).f0), x325003_3, x325004_3⟩ : S39), (⟨3, a2, ((rd_T41 l1 x10_2).f0), ((rd_T41 l1 x10_2).f1), ((rd_T41 l1 x10_2).f2)⟩ : S39)] : List (S39))) (inner := [.int .i64 2, .int .i64 a2, .string ((rd_T41 l1 x10_2).f0), .bool x325003_3, .string x325004_3, .int .i64 3, .int .i64 a2, .string ((rd_T41 l1 x10_2).f0), .bool ((rd_T41 l1 x10_2).f1), .string ((rd_T41 l1 x10_2).f2)]) (ok := fun _ => True) (okp := fun _ => True) ?hr ?hp (fun _ hk => hk) trivial (Below.refl _ _) (Nat.le_refl _) (by simp) ?_; (case hd => rfl); (case hg => rfl); (case hr => first | (go_simp; done) | (go_simp; rfl)); (case hp => exact (Reps.c5 (show Kd.M k39 _ _ _ (⟨2, a2, ((rd_T41 l1 x10_2).f0), x325003_3, x325004_3⟩ : S39) [.int .i64 2, .int .i64 a2, .string ((rd_T41 l1 x10_2).f0), .bool x325003_3, .string x325004_3] from (k39_mkM _ _ _ (⟨2, a2, ((rd_T41 l1 x10_2).f0), x325003_3, x325004_3⟩ : S39) )) (Reps.c5 (show Kd.M k39 _ _ _ (⟨3, a2, ((rd_T41 l1 x10_2).f0), ((rd_T41 l1 x10_2).f1), ((rd_T41 l1 x10_2).f2)⟩ : S39) [.int .i64 3, .int .i64 a2, .string ((rd_T41 l1 x10_2).f0), .bool ((rd_T41 l1 x10_2).f1), .string ((rd_T41 l1 x10_2).f2)] from (k39_mkM _ _ _ (⟨3, a2, ((rd_T41 l1 x10_2).f0), ((rd_T41 l1 x10_2).f1), ((rd_T41 l1 x10_2).f2)⟩ : S39) )) (Reps.none _ _)))); intro v328 w74 ho75 hb hg_ hnew_; clear hg_ hnew_; (first | rw [← Ny327.out] at ho75 | (simp only [Int.reduceToNat] at ho75; rw [← Ny327.out] at ho75)); have n0_ := Aside0.mk (Kd.R_below (by (with_reducible repeat (first | apply Kd.R_alloc | apply Kd.R_drewN | apply Kd.R_drew)); exact HO_7.out) hb); have n1_ := Aside0.mk (Kd.R_elder' (by (with_reducible repeat (first | apply Kd.R_alloc | apply Kd.R_drewN | apply Kd.R_drew)); exact HO_9.out) (Kd.R_base ho75) hb); have n2_ := Aside0.mk (Kd.R_lower (Kd.R_newB (Kd.R_new' ho75 (Kd.R_lt (by (with_reducible repeat (first | apply Kd.R_alloc | apply Kd.R_drewN | apply Kd.R_drew)); exact HO_9.out))) (g := gb324) (o := .cells #[.int .i64 2, .int .i64 a2, .string ((rd_T41 l1 x10_2).f0), .bool x325003_3, .string x325004_3] 39 (0, 0)) (by (with_reducible repeat (first | refine blk_drewN ?_ _ | refine blk_drew ?_ | refine blk_alloc ?_ _)); exact BK324.out)) (below_size (by repeat (first | (with_reducible first | exact HB.out | apply below_alloc | apply pw_below_drewN | apply below_drew1 | refine below_set ?_ GE323.out | refine below_set ?_ GE324.out) | exact HB.out)))); have n3_ := Aside0.mk (blk_below (g := gb323) (o := .cells #[.string ((rd_T41 l1 x10_2).f0), .bool ((rd_T41 l1 x10_2).f1), .string ((rd_T41 l1 x10_2).f2)] 41 (0, 0)) (by (with_reducible repeat (first | refine blk_drewN ?_ _ | refine blk_drew ?_ | refine blk_alloc ?_ _)); exact BK323.out) hb); have n4_ := Aside0.mk (blk_below (g := gb324) (o := .cells #[.int .i64 2, .int .i64 a2, .string ((rd_T41 l1 x10_2).f0), .bool x325003_3, .string x325004_3] 39 (0, 0)) (by (with_reducible repeat (first | refine blk_drewN ?_ _ | refine blk_drew ?_ | refine blk_alloc ?_ _)); exact BK324.out) hb); have n5_ := Aside0.mk (below_step (by repeat (first | (with_reducible first | exact HB.out | apply below_alloc | apply pw_below_drewN | apply below_drew1 | refine below_set ?_ GE323.out | refine below_set ?_ GE324.out) | exact HB.out)) hb); clear HO_7; clear HO_9; clear BK323; clear BK324; clear HB; have HO_7 := n0_; have HO_9 := n1_; have HO329 := n2_; have BK323 := n3_; have BK324 := n4_; have HB := n5_; clear n0_ n1_ n2_ n3_ n4_ n5_; clear hb ho75; obtain ⟨Ao77, co77, eo77⟩ := Kd.R_slice HO329.out; subst eo77) | ((with_reducible refine gate_builtin (b := .append) (xs := #[.tmp 84, .tmp 94]) rfl ?_); (try (refine gate_guard (by rfl) ?_; dsimp only)); at_builtin; refine Kd.R_append_rows k39 (w0 := w) w.heap.size rfl (.tmp 84) (.tmp 94) 23 39 (.agg #[(.int .i64 0), (.int .i64 0), (.string ⟨#[]⟩), (.bool false), (.string ⟨#[]⟩)]) 56 rfl Try.underlying23 info39 rfl (by decide) (by omega) u9 x9_2 y327 _ _ _ (fun k_ => some k_ ≠ (.slice Ao77 y327.length co77 : Value).ownBlock ∧ k_ ≠ gb324) (fun _ => False) rfl rfl ?aO ?aR (fun _ _ h => h) (fun _ h => h.elim) ?aF ?aB ?aS ?aL ?_; (case aR => repeat (first | exact (Kd.R_reads' HO329.out).2.2 | (with_reducible refine Kd.C_alloc ?_ _) | (with_reducible refine Kd.C_drewN ?_ _) | (with_reducible refine Kd.C_drew ?_))); (case aB => exact (by repeat (first | (with_reducible first | exact HB.out | apply below_alloc | apply pw_below_drewN | apply below_drew1 | refine below_set ?_ GE323.out | refine below_set ?_ GE324.out) | exact HB.out))); (case aF => exact (fun k_ hk => ⟨Kd.fresh' (Kd.R_lt (by (with_reducible repeat (first | apply Kd.R_alloc | apply Kd.R_drewN | apply Kd.R_drew)); exact HO329.out)) k_ hk, Kd.freshB (g := gb324) (o := .cells #[.int .i64 2, .int .i64 a2, .string ((rd_T41 l1 x10_2).f0), .bool x325003_3, .string x325004_3] 39 (0, 0)) (by (with_reducible repeat (first | refine blk_drewN ?_ _ | refine blk_drew ?_ | refine blk_alloc ?_ _)); exact BK324.out) k_ hk⟩)); (case aO => exact (by (with_reducible repeat (first | apply Kd.R_alloc | apply Kd.R_drewN | apply Kd.R_drew)); exact Kd.R_mono HO_9.out (fun _ hk => ⟨hk.2, hk.1⟩))); (case aS => exact (below_size (by repeat (first | (with_reducible first | exact HB.out | apply below_alloc | apply pw_below_drewN | apply below_drew1 | refine below_set ?_ GE323.out | refine below_set ?_ GE324.out) | exact HB.out)))); (case aL => have := LMc36.out; omega); intro v331 w76 ho hb hg hat; rw [← Ny330.out] at ho; have n0_ := Aside0.mk (Kd.R_over' (by (with_reducible repeat (first | apply Kd.R_alloc | apply Kd.R_drewN | apply Kd.R_drew)); exact HO_7.out) (Kd.R_typed (by (with_reducible repeat (first | apply Kd.R_alloc | apply Kd.R_drewN | apply Kd.R_drew)); exact HO_9.out)) (by decide) hg); have n1_ := Aside0.mk (blk_grown (g := gb323) (o := .cells #[.string ((rd_T41 l1 x10_2).f0), .bool ((rd_T41 l1 x10_2).f1), .string ((rd_T41 l1 x10_2).f2)] 41 (0, 0)) (by (with_reducible repeat (first | refine blk_drewN ?_ _ | refine blk_drew ?_ | refine blk_alloc ?_ _)); exact BK323.out) hg (Kd.R_ne HO_9.out BK323.out (by decide))); have n2_ := Aside0.mk (blk_grown (g := gb324) (o := .cells #[.int .i64 2, .int .i64 a2, .string ((rd_T41 l1 x10_2).f0), .bool x325003_3, .string x325004_3] 39 (0, 0)) (by (with_reducible repeat (first | refine blk_drewN ?_ _ | refine blk_drew ?_ | refine blk_alloc ?_ _)); exact BK324.out) hg (Kd.R_away HO_9.out (fun _ hk => hk.1))); have n3_ := Aside0.mk (Kd.R_after (ok := (fun k_ => k_ ≠ gb324)) (by (with_reducible repeat (first | apply Kd.R_alloc | apply Kd.R_drewN | apply Kd.R_drew)); exact Kd.R_mono HO329.out (fun _ hk => ⟨hk.2, hk.1.2⟩)) hg hat); have n4_ := Aside0.mk (hb); have n5_ := Aside0.mk (ho); clear HO_7; clear BK323; clear BK324; clear HO329; clear HB; clear HO_9; have HO_7 := n0_; have BK323 := n1_; have BK324 := n2_; have HO329 := n3_; have HB := n4_; have HO332 := n5_; clear n0_ n1_ n2_ n3_ n4_ n5_; clear ho hb hg hat; have hcz78_0 : w76.cell? ⟨gb323, 0, none⟩ = some (.string ((rd_T41 l1 x10_2).f0)) := (blk_cell BK323.out 0).trans rfl; have hcz78_1 : w76.cell? ⟨gb323, 1, none⟩ = some (.bool ((rd_T41 l1 x10_2).f1)) := (blk_cell BK323.out 1).trans rfl; have hcz78_2 : w76.cell? ⟨gb323, 2, none⟩ = some (.string ((rd_T41 l1 x10_2).f2)) := (blk_cell BK323.out 2).trans rfl; have hfz78_0 := blk_frozen BK323.out 0; have hfz78_1 := blk_frozen BK323.out 1; have hfz78_2 := blk_frozen BK323.out 2) | ((with_reducible refine gate_dst (N := 99) rfl ?_); (try (refine gate_guard (by rfl) ?_; dsimp only)); refine Kd.R_lit k41 _ 41 ?hg (N := 99) ?hd (xs := ([(⟨((rd_T41 l1 x10_2).f0), ((rd_T41 l1 x10_2).f1), ((rd_T41 l1 x10_2).f2)⟩ : S41)] : List (S41))) (inner := [.string ((rd_T41 l1 x10_2).f0), .bool ((rd_T41 l1 x10_2).f1), .string ((rd_T41 l1 x10_2).f2)]) (ok := fun _ => True) (okp := fun _ => True) ?hr ?hp (fun _ hk => hk) trivial (Below.refl _ _) (Nat.le_refl _) (by simp) ?_; (case hd => rfl); (case hg => rfl); (case hr => first | (go_simp; done) | (go_simp; rfl)); (case hp => exact (Reps.c3 (show Kd.M k41 _ _ _ (⟨((rd_T41 l1 x10_2).f0), ((rd_T41 l1 x10_2).f1), ((rd_T41 l1 x10_2).f2)⟩ : S41) [.string ((rd_T41 l1 x10_2).f0), .bool ((rd_T41 l1 x10_2).f1), .string ((rd_T41 l1 x10_2).f2)] from (k41_mkM _ _ _ (⟨((rd_T41 l1 x10_2).f0), ((rd_T41 l1 x10_2).f1), ((rd_T41 l1 x10_2).f2)⟩ : S41) )) (Reps.none _ _))); intro v334 w79 ho80 hb hg_ hnew_; clear hg_ hnew_; (first | rw [← Ny333.out] at ho80 | (simp only [Int.reduceToNat] at ho80; rw [← Ny333.out] at ho80)); have n0_ := Aside0.mk (Kd.R_elder' (by (with_reducible repeat (first | apply Kd.R_alloc | apply Kd.R_drewN | apply Kd.R_drew)); exact HO_7.out) (Kd.R_base ho80) hb); have n1_ := Aside0.mk (Kd.R_below (by (with_reducible repeat (first | apply Kd.R_alloc | apply Kd.R_drewN | apply Kd.R_drew)); exact HO329.out) hb); have n2_ := Aside0.mk (Kd.R_below (by (with_reducible repeat (first | apply Kd.R_alloc | apply Kd.R_drewN | apply Kd.R_drew)); exact HO332.out) hb); have n3_ := Aside0.mk (Kd.R_lower (Kd.R_newB (Kd.R_new' ho80 (Kd.R_lt (by (with_reducible repeat (first | apply Kd.R_alloc | apply Kd.R_drewN | apply Kd.R_drew)); exact HO_7.out))) (g := gb323) (o := .cells #[.string ((rd_T41 l1 x10_2).f0), .bool ((rd_T41 l1 x10_2).f1), .string ((rd_T41 l1 x10_2).f2)] 41 (0, 0)) (by (with_reducible repeat (first | refine blk_drewN ?_ _ | refine blk_drew ?_ | refine blk_alloc ?_ _)); exact BK323.out)) (below_size (by repeat (first | (with_reducible first | exact HB.out | apply below_alloc | apply pw_below_drewN | apply below_drew1 | refine below_set ?_ GE323.out | refine below_set ?_ GE324.out) | exact HB.out)))); have n4_ := Aside0.mk (blk_below (g := gb323) (o := .cells #[.string ((rd_T41 l1 x10_2).f0), .bool ((rd_T41 l1 x10_2).f1), .string ((rd_T41 l1 x10_2).f2)] 41 (0, 0)) (by (with_reducible repeat (first | refine blk_drewN ?_ _ | refine blk_drew ?_ | refine blk_alloc ?_ _)); exact BK323.out) hb); have n5_ := Aside0.mk (blk_below (g := gb324) (o := .cells #[.int .i64 2, .int .i64 a2, .string ((rd_T41 l1 x10_2).f0), .bool x325003_3, .string x325004_3] 39 (0, 0)) (by (with_reducible repeat (first | refine blk_drewN ?_ _ | refine blk_drew ?_ | refine blk_alloc ?_ _)); exact BK324.out) hb); have n6_ := Aside0.mk (below_step (by repeat (first | (with_reducible first | exact HB.out | apply below_alloc | apply pw_below_drewN | apply below_drew1 | refine below_set ?_ GE323.out | refine below_set ?_ GE324.out) | exact HB.out)) hb); clear HO_7; clear HO329; clear HO332; clear BK323; clear BK324; clear HB; have HO_7 := n0_; have HO329 := n1_; have HO332 := n2_; have HO335 := n3_; have BK323 := n4_; have BK324 := n5_; have HB := n6_; clear n0_ n1_ n2_ n3_ n4_ n5_ n6_; clear hb ho80; obtain ⟨Ao81, co81, eo81⟩ := Kd.R_slice HO335.out; subst eo81) | ((with_reducible refine gate_callee (f := 20) rfl ?_); refine goesL_ (some 100) rfl rfl Try.func20 (by kernel_rfl) rfl #[.slice Ao70 x7_2.length co70, .slice Ao81 y333.length co81] rfl (by (try simp only [List.map_toArray, List.map_cons, List.map_nil]); first | done | rfl | (simp only [List.length_drop, List.length_take]; rfl)) ?_; (with_reducible refine (journal_Apply.calls _ _ x7_2 _ _ y333 t336 t337 _ ?side1 ?side2 ?side3 ?side4 A37.out).mono ?_); (case side1 => repeat (first | exact (Kd.R_reads' HO_7.out).2.2 | (with_reducible refine Kd.C_alloc ?_ _) | (with_reducible refine Kd.C_drewN ?_ _) | (with_reducible refine Kd.C_drew ?_))); (case side2 => exact (Kd.R_reads' HO_7.out).2.1); (case side3 => repeat (first | exact (Kd.R_reads' HO335.out).2.2 | (with_reducible refine Kd.C_alloc ?_ _) | (with_reducible refine Kd.C_drewN ?_ _) | (with_reducible refine Kd.C_drew ?_))); (case side4 => exact (Kd.R_reads' HO335.out).2.1); rintro e w82 ⟨v338, rfl, ho0, hb⟩; refine ⟨_, rfl, ?_⟩; have n0_ := Aside0.mk (Kd.R_elder' (by (with_reducible repeat (first | apply Kd.R_alloc | apply Kd.R_drewN | apply Kd.R_drew)); exact HO_7.out) (Kd.R_base ho0) hb); have n1_ := Aside0.mk (Kd.R_below (by (with_reducible repeat (first | apply Kd.R_alloc | apply Kd.R_drewN | apply Kd.R_drew)); exact HO329.out) hb); have n2_ := Aside0.mk (Kd.R_below (by (with_reducible repeat (first | apply Kd.R_alloc | apply Kd.R_drewN | apply Kd.R_drew)); exact HO332.out) hb); have n3_ := Aside0.mk (Kd.R_elder' (by (with_reducible repeat (first | apply Kd.R_alloc | apply Kd.R_drewN | apply Kd.R_drew)); exact HO335.out) (Kd.R_base ho0) hb); have n4_ := Aside0.mk (Kd.R_lower (Kd.R_newB (Kd.R_new' (Kd.R_new' ho0 (Kd.R_lt (by (with_reducible repeat (first | apply Kd.R_alloc | apply Kd.R_drewN | apply Kd.R_drew)); exact HO_7.out))) (Kd.R_lt (by (with_reducible repeat (first | apply Kd.R_alloc | apply Kd.R_drewN | apply Kd.R_drew)); exact HO335.out))) (g := gb323) (o := .cells #[.string ((rd_T41 l1 x10_2).f0), .bool ((rd_T41 l1 x10_2).f1), .string ((rd_T41 l1 x10_2).f2)] 41 (0, 0)) (by (with_reducible repeat (first | refine blk_drewN ?_ _ | refine blk_drew ?_ | refine blk_alloc ?_ _)); exact BK323.out)) (below_size (by repeat (first | (with_reducible first | exact HB.out | apply below_alloc | apply pw_below_drewN | apply below_drew1 | refine below_set ?_ GE323.out | refine below_set ?_ GE324.out) | exact HB.out)))); have n5_ := Aside0.mk (blk_below (g := gb323) (o := .cells #[.string ((rd_T41 l1 x10_2).f0), .bool ((rd_T41 l1 x10_2).f1), .string ((rd_T41 l1 x10_2).f2)] 41 (0, 0)) (by (with_reducible repeat (first | refine blk_drewN ?_ _ | refine blk_drew ?_ | refine blk_alloc ?_ _)); exact BK323.out) hb); have n6_ := Aside0.mk (blk_below (g := gb324) (o := .cells #[.int .i64 2, .int .i64 a2, .string ((rd_T41 l1 x10_2).f0), .bool x325003_3, .string x325004_3] 39 (0, 0)) (by (with_reducible repeat (first | refine blk_drewN ?_ _ | refine blk_drew ?_ | refine blk_alloc ?_ _)); exact BK324.out) hb); have n7_ := Aside0.mk (below_step (by repeat (first | (with_reducible first | exact HB.out | apply below_alloc | apply pw_below_drewN | apply below_drew1 | refine below_set ?_ GE323.out | refine below_set ?_ GE324.out) | exact HB.out)) hb); clear HO_7; clear HO329; clear HO332; clear HO335; clear BK323; clear BK324; clear HB; have HO_7 := n0_; have HO329 := n1_; have HO332 := n2_; have HO335 := n3_; have HO339 := n4_; have BK323 := n5_; have BK324 := n6_; have HB := n7_; clear n0_ n1_ n2_ n3_ n4_ n5_ n6_ n7_; (try clear hb); (try clear hb2); (try clear hk); (try clear hi); (try clear ho0)) | (go_at_call 12; (with_reducible refine (ringworklaw25_awake.calls  t341 _ A69.out).mono ?_); rintro e w83 ⟨rfl, hb⟩; have n0_ := Aside0.mk (Kd.R_below (by (with_reducible repeat (first | apply Kd.R_alloc | apply Kd.R_drewN | apply Kd.R_drew)); exact HO_7.out) hb); have n1_ := Aside0.mk (Kd.R_below (by (with_reducible repeat (first | apply Kd.R_alloc | apply Kd.R_drewN | apply Kd.R_drew)); exact HO329.out) hb); have n2_ := Aside0.mk (Kd.R_below (by (with_reducible repeat (first | apply Kd.R_alloc | apply Kd.R_drewN | apply Kd.R_drew)); exact HO332.out) hb); have n3_ := Aside0.mk (Kd.R_below (by (with_reducible repeat (first | apply Kd.R_alloc | apply Kd.R_drewN | apply Kd.R_drew)); exact HO335.out) hb); have n4_ := Aside0.mk (Kd.R_below (by (with_reducible repeat (first | apply Kd.R_alloc | apply Kd.R_drewN | apply Kd.R_drew)); exact HO339.out) hb); have n5_ := Aside0.mk (blk_below (g := gb323) (o := .cells #[.string ((rd_T41 l1 x10_2).f0), .bool ((rd_T41 l1 x10_2).f1), .string ((rd_T41 l1 x10_2).f2)] 41 (0, 0)) (by (with_reducible repeat (first | refine blk_drewN ?_ _ | refine blk_drew ?_ | refine blk_alloc ?_ _)); exact BK323.out) hb); have n6_ := Aside0.mk (blk_below (g := gb324) (o := .cells #[.int .i64 2, .int .i64 a2, .string ((rd_T41 l1 x10_2).f0), .bool x325003_3, .string x325004_3] 39 (0, 0)) (by (with_reducible repeat (first | refine blk_drewN ?_ _ | refine blk_drew ?_ | refine blk_alloc ?_ _)); exact BK324.out) hb); have n7_ := Aside0.mk (below_step (by repeat (first | (with_reducible first | exact HB.out | apply below_alloc | apply pw_below_drewN | apply below_drew1 | refine below_set ?_ GE323.out | refine below_set ?_ GE324.out) | exact HB.out)) hb); clear HO_7; clear HO329; clear HO332; clear HO335; clear HO339; clear BK323; clear BK324; clear HB; have HO_7 := n0_; have HO329 := n1_; have HO332 := n2_; have HO335 := n3_; have HO339 := n4_; have BK323 := n5_; have BK324 := n6_; have HB := n7_; clear n0_ n1_ n2_ n3_ n4_ n5_ n6_ n7_; (try clear hb); (try clear hb2); (try clear hk); (try clear hi)))
                                go_ret
                                exact ⟨by first | rfl | (simp [errW_none, errW_some] <;> rfl) | (simp [*, errW_none, errW_some] <;> rfl), by repeat (first | (with_reducible first | exact HB.out | apply below_alloc | apply pw_below_drewN | apply below_drew1 | refine below_set ?_ GE323.out | refine below_set ?_ GE324.out) | exact HB.out)⟩
                              · rw [if_neg c68] at H
                                have c68b0 : (t337 == 4) = false := beq_eq_false_iff_ne.mpr c68
                                have c68b1 : (t337 != 4) = true := bne_iff_ne.mpr c68
                                obtain rfl := Option.some.inj H
                                obtain ⟨Ao84, co84, eo84⟩ := Kd.R_slice HO_7.out
                                subst eo84
                                have hnb85 := NB324_323.out
                                have hnc85 := NB323_324.out
                                have hcz86_0 : wr.cell? ⟨gb324, 0, none⟩ = some (.int .i64 2) := (blk_cell BK324.out 0).trans rfl
                                have hcz86_1 : wr.cell? ⟨gb324, 1, none⟩ = some (.int .i64 a2) := (blk_cell BK324.out 1).trans rfl
                                have hcz86_2 : wr.cell? ⟨gb324, 2, none⟩ = some (.string ((rd_T41 l1 x10_2).f0)) := (blk_cell BK324.out 2).trans rfl
                                have hcz86_3 : wr.cell? ⟨gb324, 3, none⟩ = some (.bool x325003_3) := (blk_cell BK324.out 3).trans rfl
                                have hcz86_4 : wr.cell? ⟨gb324, 4, none⟩ = some (.string x325004_3) := (blk_cell BK324.out 4).trans rfl
                                have hfz86_0 := blk_frozen BK324.out 0
                                have hfz86_1 := blk_frozen BK324.out 1
                                have hfz86_2 := blk_frozen BK324.out 2
                                have hfz86_3 := blk_frozen BK324.out 3
                                have hfz86_4 := blk_frozen BK324.out 4
                                have hcz87_0 : wr.cell? ⟨gb323, 0, none⟩ = some (.string ((rd_T41 l1 x10_2).f0)) := (blk_cell BK323.out 0).trans rfl
                                have hcz87_1 : wr.cell? ⟨gb323, 1, none⟩ = some (.bool ((rd_T41 l1 x10_2).f1)) := (blk_cell BK323.out 1).trans rfl
                                have hcz87_2 : wr.cell? ⟨gb323, 2, none⟩ = some (.string ((rd_T41 l1 x10_2).f2)) := (blk_cell BK323.out 2).trans rfl
                                have hfz87_0 := blk_frozen BK323.out 0
                                have hfz87_1 := blk_frozen BK323.out 1
                                have hfz87_2 := blk_frozen BK323.out 2
                                go_wp2_with (first | ((with_reducible refine gate_dst (N := 94) rfl ?_); (try (refine gate_guard (by rfl) ?_; dsimp only)); refine Kd.R_lit k39 _ 39 ?hg (N := 94) ?hd (xs := ([(⟨2, a2, ((rd_T41 l1 x10_2).f0), x325003_3, x325004_3⟩ : S39), (⟨3, a2, ((rd_T41 l1 x10_2).f0), ((rd_T41 l1 x10_2).f1), ((rd_T41 l1 x10_2).f2)⟩ : S39)] : List (S39))) (inner := [.int .i64 2, .int .i64 a2, .string ((rd_T41 l1 x10_2).f0), .bool x325003_3, .string x325004_3, .int .i64 3, .int .i64 a2, .string ((rd_T41 l1 x10_2).f0), .bool ((rd_T41 l1 x10_2).f1), .string ((rd_T41 l1 x10_2).f2)]) (ok := fun _ => True) (okp := fun _ => True) ?hr ?hp (fun _ hk => hk) trivial (Below.refl _ _) (Nat.le_refl _) (by simp) ?_; (case hd => rfl); (case hg => rfl); (case hr => first | (go_simp; done) | (go_simp; rfl)); (case hp => exact (Reps.c5 (show Kd.M k39 _ _ _ (⟨2, a2, ((rd_T41 l1 x10_2).f0), x325003_3, x325004_3⟩ : S39) [.int .i64 2, .int .i64 a2, .string ((rd_T41 l1 x10_2).f0), .bool x325003_3, .string x325004_3] from (k39_mkM _ _ _ (⟨2, a2, ((rd_T41 l1 x10_2).f0), x325003_3, x325004_3⟩ : S39) )) (Reps.c5 (show Kd.M k39 _ _ _ (⟨3, a2, ((rd_T41 l1 x10_2).f0), ((rd_T41 l1 x10_2).f1), ((rd_T41 l1 x10_2).f2)⟩ : S39) [.int .i64 3, .int .i64 a2, .string ((rd_T41 l1 x10_2).f0), .bool ((rd_T41 l1 x10_2).f1), .string ((rd_T41 l1 x10_2).f2)] from (k39_mkM _ _ _ (⟨3, a2, ((rd_T41 l1 x10_2).f0), ((rd_T41 l1 x10_2).f1), ((rd_T41 l1 x10_2).f2)⟩ : S39) )) (Reps.none _ _)))); intro v328 w88 ho89 hb hg_ hnew_; clear hg_ hnew_; (first | rw [← Ny327.out] at ho89 | (simp only [Int.reduceToNat] at ho89; rw [← Ny327.out] at ho89)); have n0_ := Aside0.mk (Kd.R_below (by (with_reducible repeat (first | apply Kd.R_alloc | apply Kd.R_drewN | apply Kd.R_drew)); exact HO_7.out) hb); have n1_ := Aside0.mk (Kd.R_elder' (by (with_reducible repeat (first | apply Kd.R_alloc | apply Kd.R_drewN | apply Kd.R_drew)); exact HO_9.out) (Kd.R_base ho89) hb); have n2_ := Aside0.mk (Kd.R_lower (Kd.R_newB (Kd.R_new' ho89 (Kd.R_lt (by (with_reducible repeat (first | apply Kd.R_alloc | apply Kd.R_drewN | apply Kd.R_drew)); exact HO_9.out))) (g := gb324) (o := .cells #[.int .i64 2, .int .i64 a2, .string ((rd_T41 l1 x10_2).f0), .bool x325003_3, .string x325004_3] 39 (0, 0)) (by (with_reducible repeat (first | refine blk_drewN ?_ _ | refine blk_drew ?_ | refine blk_alloc ?_ _)); exact BK324.out)) (below_size (by repeat (first | (with_reducible first | exact HB.out | apply below_alloc | apply pw_below_drewN | apply below_drew1 | refine below_set ?_ GE323.out | refine below_set ?_ GE324.out) | exact HB.out)))); have n3_ := Aside0.mk (blk_below (g := gb323) (o := .cells #[.string ((rd_T41 l1 x10_2).f0), .bool ((rd_T41 l1 x10_2).f1), .string ((rd_T41 l1 x10_2).f2)] 41 (0, 0)) (by (with_reducible repeat (first | refine blk_drewN ?_ _ | refine blk_drew ?_ | refine blk_alloc ?_ _)); exact BK323.out) hb); have n4_ := Aside0.mk (blk_below (g := gb324) (o := .cells #[.int .i64 2, .int .i64 a2, .string ((rd_T41 l1 x10_2).f0), .bool x325003_3, .string x325004_3] 39 (0, 0)) (by (with_reducible repeat (first | refine blk_drewN ?_ _ | refine blk_drew ?_ | refine blk_alloc ?_ _)); exact BK324.out) hb); have n5_ := Aside0.mk (below_step (by repeat (first | (with_reducible first | exact HB.out | apply below_alloc | apply pw_below_drewN | apply below_drew1 | refine below_set ?_ GE323.out | refine below_set ?_ GE324.out) | exact HB.out)) hb); clear HO_7; clear HO_9; clear BK323; clear BK324; clear HB; have HO_7 := n0_; have HO_9 := n1_; have HO329 := n2_; have BK323 := n3_; have BK324 := n4_; have HB := n5_; clear n0_ n1_ n2_ n3_ n4_ n5_; clear hb ho89; obtain ⟨Ao91, co91, eo91⟩ := Kd.R_slice HO329.out; subst eo91) | ((with_reducible refine gate_builtin (b := .append) (xs := #[.tmp 84, .tmp 94]) rfl ?_); (try (refine gate_guard (by rfl) ?_; dsimp only)); at_builtin; refine Kd.R_append_rows k39 (w0 := w) w.heap.size rfl (.tmp 84) (.tmp 94) 23 39 (.agg #[(.int .i64 0), (.int .i64 0), (.string ⟨#[]⟩), (.bool false), (.string ⟨#[]⟩)]) 56 rfl Try.underlying23 info39 rfl (by decide) (by omega) u9 x9_2 y327 _ _ _ (fun k_ => some k_ ≠ (.slice Ao91 y327.length co91 : Value).ownBlock ∧ k_ ≠ gb324) (fun _ => False) rfl rfl ?aO ?aR (fun _ _ h => h) (fun _ h => h.elim) ?aF ?aB ?aS ?aL ?_; (case aR => repeat (first | exact (Kd.R_reads' HO329.out).2.2 | (with_reducible refine Kd.C_alloc ?_ _) | (with_reducible refine Kd.C_drewN ?_ _) | (with_reducible refine Kd.C_drew ?_))); (case aB => exact (by repeat (first | (with_reducible first | exact HB.out | apply below_alloc | apply pw_below_drewN | apply below_drew1 | refine below_set ?_ GE323.out | refine below_set ?_ GE324.out) | exact HB.out))); (case aF => exact (fun k_ hk => ⟨Kd.fresh' (Kd.R_lt (by (with_reducible repeat (first | apply Kd.R_alloc | apply Kd.R_drewN | apply Kd.R_drew)); exact HO329.out)) k_ hk, Kd.freshB (g := gb324) (o := .cells #[.int .i64 2, .int .i64 a2, .string ((rd_T41 l1 x10_2).f0), .bool x325003_3, .string x325004_3] 39 (0, 0)) (by (with_reducible repeat (first | refine blk_drewN ?_ _ | refine blk_drew ?_ | refine blk_alloc ?_ _)); exact BK324.out) k_ hk⟩)); (case aO => exact (by (with_reducible repeat (first | apply Kd.R_alloc | apply Kd.R_drewN | apply Kd.R_drew)); exact Kd.R_mono HO_9.out (fun _ hk => ⟨hk.2, hk.1⟩))); (case aS => exact (below_size (by repeat (first | (with_reducible first | exact HB.out | apply below_alloc | apply pw_below_drewN | apply below_drew1 | refine below_set ?_ GE323.out | refine below_set ?_ GE324.out) | exact HB.out)))); (case aL => have := LMc36.out; omega); intro v331 w90 ho hb hg hat; rw [← Ny330.out] at ho; have n0_ := Aside0.mk (Kd.R_over' (by (with_reducible repeat (first | apply Kd.R_alloc | apply Kd.R_drewN | apply Kd.R_drew)); exact HO_7.out) (Kd.R_typed (by (with_reducible repeat (first | apply Kd.R_alloc | apply Kd.R_drewN | apply Kd.R_drew)); exact HO_9.out)) (by decide) hg); have n1_ := Aside0.mk (blk_grown (g := gb323) (o := .cells #[.string ((rd_T41 l1 x10_2).f0), .bool ((rd_T41 l1 x10_2).f1), .string ((rd_T41 l1 x10_2).f2)] 41 (0, 0)) (by (with_reducible repeat (first | refine blk_drewN ?_ _ | refine blk_drew ?_ | refine blk_alloc ?_ _)); exact BK323.out) hg (Kd.R_ne HO_9.out BK323.out (by decide))); have n2_ := Aside0.mk (blk_grown (g := gb324) (o := .cells #[.int .i64 2, .int .i64 a2, .string ((rd_T41 l1 x10_2).f0), .bool x325003_3, .string x325004_3] 39 (0, 0)) (by (with_reducible repeat (first | refine blk_drewN ?_ _ | refine blk_drew ?_ | refine blk_alloc ?_ _)); exact BK324.out) hg (Kd.R_away HO_9.out (fun _ hk => hk.1))); have n3_ := Aside0.mk (Kd.R_after (ok := (fun k_ => k_ ≠ gb324)) (by (with_reducible repeat (first | apply Kd.R_alloc | apply Kd.R_drewN | apply Kd.R_drew)); exact Kd.R_mono HO329.out (fun _ hk => ⟨hk.2, hk.1.2⟩)) hg hat); have n4_ := Aside0.mk (hb); have n5_ := Aside0.mk (ho); clear HO_7; clear BK323; clear BK324; clear HO329; clear HB; clear HO_9; have HO_7 := n0_; have BK323 := n1_; have BK324 := n2_; have HO329 := n3_; have HB := n4_; have HO332 := n5_; clear n0_ n1_ n2_ n3_ n4_ n5_; clear ho hb hg hat; have hcz92_0 : w90.cell? ⟨gb323, 0, none⟩ = some (.string ((rd_T41 l1 x10_2).f0)) := (blk_cell BK323.out 0).trans rfl; have hcz92_1 : w90.cell? ⟨gb323, 1, none⟩ = some (.bool ((rd_T41 l1 x10_2).f1)) := (blk_cell BK323.out 1).trans rfl; have hcz92_2 : w90.cell? ⟨gb323, 2, none⟩ = some (.string ((rd_T41 l1 x10_2).f2)) := (blk_cell BK323.out 2).trans rfl; have hfz92_0 := blk_frozen BK323.out 0; have hfz92_1 := blk_frozen BK323.out 1; have hfz92_2 := blk_frozen BK323.out 2) | ((with_reducible refine gate_dst (N := 99) rfl ?_); (try (refine gate_guard (by rfl) ?_; dsimp only)); refine Kd.R_lit k41 _ 41 ?hg (N := 99) ?hd (xs := ([(⟨((rd_T41 l1 x10_2).f0), ((rd_T41 l1 x10_2).f1), ((rd_T41 l1 x10_2).f2)⟩ : S41)] : List (S41))) (inner := [.string ((rd_T41 l1 x10_2).f0), .bool ((rd_T41 l1 x10_2).f1), .string ((rd_T41 l1 x10_2).f2)]) (ok := fun _ => True) (okp := fun _ => True) ?hr ?hp (fun _ hk => hk) trivial (Below.refl _ _) (Nat.le_refl _) (by simp) ?_; (case hd => rfl); (case hg => rfl); (case hr => first | (go_simp; done) | (go_simp; rfl)); (case hp => exact (Reps.c3 (show Kd.M k41 _ _ _ (⟨((rd_T41 l1 x10_2).f0), ((rd_T41 l1 x10_2).f1), ((rd_T41 l1 x10_2).f2)⟩ : S41) [.string ((rd_T41 l1 x10_2).f0), .bool ((rd_T41 l1 x10_2).f1), .string ((rd_T41 l1 x10_2).f2)] from (k41_mkM _ _ _ (⟨((rd_T41 l1 x10_2).f0), ((rd_T41 l1 x10_2).f1), ((rd_T41 l1 x10_2).f2)⟩ : S41) )) (Reps.none _ _))); intro v334 w93 ho94 hb hg_ hnew_; clear hg_ hnew_; (first | rw [← Ny333.out] at ho94 | (simp only [Int.reduceToNat] at ho94; rw [← Ny333.out] at ho94)); have n0_ := Aside0.mk (Kd.R_elder' (by (with_reducible repeat (first | apply Kd.R_alloc | apply Kd.R_drewN | apply Kd.R_drew)); exact HO_7.out) (Kd.R_base ho94) hb); have n1_ := Aside0.mk (Kd.R_below (by (with_reducible repeat (first | apply Kd.R_alloc | apply Kd.R_drewN | apply Kd.R_drew)); exact HO329.out) hb); have n2_ := Aside0.mk (Kd.R_below (by (with_reducible repeat (first | apply Kd.R_alloc | apply Kd.R_drewN | apply Kd.R_drew)); exact HO332.out) hb); have n3_ := Aside0.mk (Kd.R_lower (Kd.R_newB (Kd.R_new' ho94 (Kd.R_lt (by (with_reducible repeat (first | apply Kd.R_alloc | apply Kd.R_drewN | apply Kd.R_drew)); exact HO_7.out))) (g := gb323) (o := .cells #[.string ((rd_T41 l1 x10_2).f0), .bool ((rd_T41 l1 x10_2).f1), .string ((rd_T41 l1 x10_2).f2)] 41 (0, 0)) (by (with_reducible repeat (first | refine blk_drewN ?_ _ | refine blk_drew ?_ | refine blk_alloc ?_ _)); exact BK323.out)) (below_size (by repeat (first | (with_reducible first | exact HB.out | apply below_alloc | apply pw_below_drewN | apply below_drew1 | refine below_set ?_ GE323.out | refine below_set ?_ GE324.out) | exact HB.out)))); have n4_ := Aside0.mk (blk_below (g := gb323) (o := .cells #[.string ((rd_T41 l1 x10_2).f0), .bool ((rd_T41 l1 x10_2).f1), .string ((rd_T41 l1 x10_2).f2)] 41 (0, 0)) (by (with_reducible repeat (first | refine blk_drewN ?_ _ | refine blk_drew ?_ | refine blk_alloc ?_ _)); exact BK323.out) hb); have n5_ := Aside0.mk (blk_below (g := gb324) (o := .cells #[.int .i64 2, .int .i64 a2, .string ((rd_T41 l1 x10_2).f0), .bool x325003_3, .string x325004_3] 39 (0, 0)) (by (with_reducible repeat (first | refine blk_drewN ?_ _ | refine blk_drew ?_ | refine blk_alloc ?_ _)); exact BK324.out) hb); have n6_ := Aside0.mk (below_step (by repeat (first | (with_reducible first | exact HB.out | apply below_alloc | apply pw_below_drewN | apply below_drew1 | refine below_set ?_ GE323.out | refine below_set ?_ GE324.out) | exact HB.out)) hb); clear HO_7; clear HO329; clear HO332; clear BK323; clear BK324; clear HB; have HO_7 := n0_; have HO329 := n1_; have HO332 := n2_; have HO335 := n3_; have BK323 := n4_; have BK324 := n5_; have HB := n6_; clear n0_ n1_ n2_ n3_ n4_ n5_ n6_; clear hb ho94; obtain ⟨Ao95, co95, eo95⟩ := Kd.R_slice HO335.out; subst eo95) | ((with_reducible refine gate_callee (f := 20) rfl ?_); refine goesL_ (some 100) rfl rfl Try.func20 (by kernel_rfl) rfl #[.slice Ao84 x7_2.length co84, .slice Ao95 y333.length co95] rfl (by (try simp only [List.map_toArray, List.map_cons, List.map_nil]); first | done | rfl | (simp only [List.length_drop, List.length_take]; rfl)) ?_; (with_reducible refine (journal_Apply.calls _ _ x7_2 _ _ y333 t336 t337 _ ?side1 ?side2 ?side3 ?side4 A37.out).mono ?_); (case side1 => repeat (first | exact (Kd.R_reads' HO_7.out).2.2 | (with_reducible refine Kd.C_alloc ?_ _) | (with_reducible refine Kd.C_drewN ?_ _) | (with_reducible refine Kd.C_drew ?_))); (case side2 => exact (Kd.R_reads' HO_7.out).2.1); (case side3 => repeat (first | exact (Kd.R_reads' HO335.out).2.2 | (with_reducible refine Kd.C_alloc ?_ _) | (with_reducible refine Kd.C_drewN ?_ _) | (with_reducible refine Kd.C_drew ?_))); (case side4 => exact (Kd.R_reads' HO335.out).2.1); rintro e w96 ⟨v338, rfl, ho0, hb⟩; refine ⟨_, rfl, ?_⟩; have n0_ := Aside0.mk (Kd.R_elder' (by (with_reducible repeat (first | apply Kd.R_alloc | apply Kd.R_drewN | apply Kd.R_drew)); exact HO_7.out) (Kd.R_base ho0) hb); have n1_ := Aside0.mk (Kd.R_below (by (with_reducible repeat (first | apply Kd.R_alloc | apply Kd.R_drewN | apply Kd.R_drew)); exact HO329.out) hb); have n2_ := Aside0.mk (Kd.R_below (by (with_reducible repeat (first | apply Kd.R_alloc | apply Kd.R_drewN | apply Kd.R_drew)); exact HO332.out) hb); have n3_ := Aside0.mk (Kd.R_elder' (by (with_reducible repeat (first | apply Kd.R_alloc | apply Kd.R_drewN | apply Kd.R_drew)); exact HO335.out) (Kd.R_base ho0) hb); have n4_ := Aside0.mk (Kd.R_lower (Kd.R_newB (Kd.R_new' (Kd.R_new' ho0 (Kd.R_lt (by (with_reducible repeat (first | apply Kd.R_alloc | apply Kd.R_drewN | apply Kd.R_drew)); exact HO_7.out))) (Kd.R_lt (by (with_reducible repeat (first | apply Kd.R_alloc | apply Kd.R_drewN | apply Kd.R_drew)); exact HO335.out))) (g := gb323) (o := .cells #[.string ((rd_T41 l1 x10_2).f0), .bool ((rd_T41 l1 x10_2).f1), .string ((rd_T41 l1 x10_2).f2)] 41 (0, 0)) (by (with_reducible repeat (first | refine blk_drewN ?_ _ | refine blk_drew ?_ | refine blk_alloc ?_ _)); exact BK323.out)) (below_size (by repeat (first | (with_reducible first | exact HB.out | apply below_alloc | apply pw_below_drewN | apply below_drew1 | refine below_set ?_ GE323.out | refine below_set ?_ GE324.out) | exact HB.out)))); have n5_ := Aside0.mk (blk_below (g := gb323) (o := .cells #[.string ((rd_T41 l1 x10_2).f0), .bool ((rd_T41 l1 x10_2).f1), .string ((rd_T41 l1 x10_2).f2)] 41 (0, 0)) (by (with_reducible repeat (first | refine blk_drewN ?_ _ | refine blk_drew ?_ | refine blk_alloc ?_ _)); exact BK323.out) hb); have n6_ := Aside0.mk (blk_below (g := gb324) (o := .cells #[.int .i64 2, .int .i64 a2, .string ((rd_T41 l1 x10_2).f0), .bool x325003_3, .string x325004_3] 39 (0, 0)) (by (with_reducible repeat (first | refine blk_drewN ?_ _ | refine blk_drew ?_ | refine blk_alloc ?_ _)); exact BK324.out) hb); have n7_ := Aside0.mk (below_step (by repeat (first | (with_reducible first | exact HB.out | apply below_alloc | apply pw_below_drewN | apply below_drew1 | refine below_set ?_ GE323.out | refine below_set ?_ GE324.out) | exact HB.out)) hb); clear HO_7; clear HO329; clear HO332; clear HO335; clear BK323; clear BK324; clear HB; have HO_7 := n0_; have HO329 := n1_; have HO332 := n2_; have HO335 := n3_; have HO339 := n4_; have BK323 := n5_; have BK324 := n6_; have HB := n7_; clear n0_ n1_ n2_ n3_ n4_ n5_ n6_ n7_; (try clear hb); (try clear hb2); (try clear hk); (try clear hi); (try clear ho0)))
                                go_ret
                                exact ⟨by first | rfl | (simp [errW_none, errW_some] <;> rfl) | (simp [*, errW_none, errW_some] <;> rfl), by repeat (first | (with_reducible first | exact HB.out | apply below_alloc | apply pw_below_drewN | apply below_drew1 | refine below_set ?_ GE323.out | refine below_set ?_ GE324.out) | exact HB.out)⟩
                        · rw [if_neg c36] at H
                          exact absurd H (by simp)
                · rw [if_neg c20] at H
                  exact absurd H (by simp)
              · rw [if_neg c19] at H
                have c19b0 : decide (x10_2 < (l1.length : Int)) = false := decide_eq_false c19
                clear c19
                replace H := Option.bind_eq_some_iff.mp H
                obtain ⟨⟨t342, t343⟩, A970, H⟩ := H
                replace H : (if t343 = 0 then ((journal_Apply.f x7_2 t342).bind fun bt346 => (if bt346.2 = 0 then ((ringworkref25_SameImages.f k2 bt346.1 l0).bind fun t350 => (if t350 = true then ((ringworklaw25_awake.f).bind fun t351 => (some t351)) else (some false))) else (some false))) else (some false)) = some r := H
                have A97 := Aside0.mk A970
                clear A970
                by_cases c98 : t343 = 0
                · rw [if_pos c98] at H
                  have c98b0 : (t343 == 0) = true := beq_iff_eq.mpr c98
                  have c98b1 : (t343 != 0) = false := bne_eq_false_iff_eq.mpr c98
                  clear c98
                  replace H := Option.bind_eq_some_iff.mp H
                  obtain ⟨⟨t346, t347⟩, A990, H⟩ := H
                  replace H : (if t347 = 0 then ((ringworkref25_SameImages.f k2 t346 l0).bind fun t350 => (if t350 = true then ((ringworklaw25_awake.f).bind fun t351 => (some t351)) else (some false))) else (some false)) = some r := H
                  have A99 := Aside0.mk A990
                  clear A990
                  by_cases c100 : t347 = 0
                  · rw [if_pos c100] at H
                    have c100b0 : (t347 == 0) = true := beq_iff_eq.mpr c100
                    have c100b1 : (t347 != 0) = false := bne_eq_false_iff_eq.mpr c100
                    clear c100
                    replace H := Option.bind_eq_some_iff.mp H
                    obtain ⟨t350, A1010, H⟩ := H
                    replace H : (if t350 = true then ((ringworklaw25_awake.f).bind fun t351 => (some t351)) else (some false)) = some r := H
                    have A101 := Aside0.mk A1010
                    clear A1010
                    by_cases c102 : t350 = true
                    · subst c102
                      have H1 : ((ringworklaw25_awake.f).bind fun t351 => (some t351)) = some r := by rw [if_pos rfl] at H; exact H
                      clear H
                      have H := H1
                      clear H1
                      replace H := Option.bind_eq_some_iff.mp H
                      obtain ⟨t351, A1030, H⟩ := H
                      replace H : (some t351) = some r := H
                      have A103 := Aside0.mk A1030
                      clear A1030
                      obtain rfl := Option.some.inj H
                      obtain ⟨Ao104, co104, eo104⟩ := Kd.R_slice HO_9.out
                      subst eo104
                      go_wp2_with (first | ((with_reducible refine gate_callee (f := 16) rfl ?_); refine goesL_ (some 117) rfl rfl Try.func16 (by kernel_rfl) rfl #[.slice Ao104 x9_2.length co104, .int .i64 a2] rfl (by (try simp only [List.map_toArray, List.map_cons, List.map_nil]); first | done | rfl | (simp only [List.length_drop, List.length_take]; rfl)) ?_; (with_reducible refine (journal_Undo.calls _ _ x9_2 a2 t342 t343 _ ?side1 ?side2 A97.out).mono ?_); (case side1 => repeat (first | exact (Kd.R_reads' HO_9.out).2.2 | (with_reducible refine Kd.C_alloc ?_ _) | (with_reducible refine Kd.C_drewN ?_ _) | (with_reducible refine Kd.C_drew ?_))); (case side2 => exact (Kd.R_reads' HO_9.out).2.1); rintro e w105 ⟨v344, rfl, ho0, hb⟩; refine ⟨_, rfl, ?_⟩; have n0_ := Aside0.mk (Kd.R_elder' (by (with_reducible repeat (first | apply Kd.R_alloc | apply Kd.R_drewN | apply Kd.R_drew)); exact HO_7.out) (Kd.R_base ho0) hb); have n1_ := Aside0.mk (Kd.R_below (by (with_reducible repeat (first | apply Kd.R_alloc | apply Kd.R_drewN | apply Kd.R_drew)); exact HO_9.out) hb); have n2_ := Aside0.mk (Kd.R_lower (Kd.R_new' ho0 (Kd.R_lt (by (with_reducible repeat (first | apply Kd.R_alloc | apply Kd.R_drewN | apply Kd.R_drew)); exact HO_7.out))) (below_size (by repeat (first | (with_reducible first | exact HB.out | apply below_alloc | apply pw_below_drewN | apply below_drew1) | exact HB.out)))); have n3_ := Aside0.mk (below_step (by repeat (first | (with_reducible first | exact HB.out | apply below_alloc | apply pw_below_drewN | apply below_drew1) | exact HB.out)) hb); clear HO_7; clear HO_9; clear HB; have HO_7 := n0_; have HO_9 := n1_; have HO345 := n2_; have HB := n3_; clear n0_ n1_ n2_ n3_; (try clear hb); (try clear hb2); (try clear hk); (try clear hi); (try clear ho0); obtain ⟨Ao106, co106, eo106⟩ := Kd.R_slice HO_7.out; subst eo106; obtain ⟨Ao107, co107, eo107⟩ := Kd.R_slice HO345.out; subst eo107) | ((with_reducible refine gate_callee (f := 20) rfl ?_); refine goesL_ (some 125) rfl rfl Try.func20 (by kernel_rfl) rfl #[.slice Ao106 x7_2.length co106, .slice Ao107 t342.length co107] rfl (by (try simp only [List.map_toArray, List.map_cons, List.map_nil]); first | done | rfl | (simp only [List.length_drop, List.length_take]; rfl)) ?_; (with_reducible refine (journal_Apply.calls _ _ x7_2 _ _ t342 t346 t347 _ ?side1 ?side2 ?side3 ?side4 A99.out).mono ?_); (case side1 => repeat (first | exact (Kd.R_reads' HO_7.out).2.2 | (with_reducible refine Kd.C_alloc ?_ _) | (with_reducible refine Kd.C_drewN ?_ _) | (with_reducible refine Kd.C_drew ?_))); (case side2 => exact (Kd.R_reads' HO_7.out).2.1); (case side3 => repeat (first | exact (Kd.R_reads' HO345.out).2.2 | (with_reducible refine Kd.C_alloc ?_ _) | (with_reducible refine Kd.C_drewN ?_ _) | (with_reducible refine Kd.C_drew ?_))); (case side4 => exact (Kd.R_reads' HO345.out).2.1); rintro e w108 ⟨v348, rfl, ho0, hb⟩; refine ⟨_, rfl, ?_⟩; have n0_ := Aside0.mk (Kd.R_elder' (by (with_reducible repeat (first | apply Kd.R_alloc | apply Kd.R_drewN | apply Kd.R_drew)); exact HO_7.out) (Kd.R_base ho0) hb); have n1_ := Aside0.mk (Kd.R_below (by (with_reducible repeat (first | apply Kd.R_alloc | apply Kd.R_drewN | apply Kd.R_drew)); exact HO_9.out) hb); have n2_ := Aside0.mk (Kd.R_elder' (by (with_reducible repeat (first | apply Kd.R_alloc | apply Kd.R_drewN | apply Kd.R_drew)); exact HO345.out) (Kd.R_base ho0) hb); have n3_ := Aside0.mk (Kd.R_lower (Kd.R_new' (Kd.R_new' ho0 (Kd.R_lt (by (with_reducible repeat (first | apply Kd.R_alloc | apply Kd.R_drewN | apply Kd.R_drew)); exact HO_7.out))) (Kd.R_lt (by (with_reducible repeat (first | apply Kd.R_alloc | apply Kd.R_drewN | apply Kd.R_drew)); exact HO345.out))) (below_size (by repeat (first | (with_reducible first | exact HB.out | apply below_alloc | apply pw_below_drewN | apply below_drew1) | exact HB.out)))); have n4_ := Aside0.mk (below_step (by repeat (first | (with_reducible first | exact HB.out | apply below_alloc | apply pw_below_drewN | apply below_drew1) | exact HB.out)) hb); clear HO_7; clear HO_9; clear HO345; clear HB; have HO_7 := n0_; have HO_9 := n1_; have HO345 := n2_; have HO349 := n3_; have HB := n4_; clear n0_ n1_ n2_ n3_ n4_; (try clear hb); (try clear hb2); (try clear hk); (try clear hi); (try clear ho0); obtain ⟨Ao109, co109, eo109⟩ := Kd.R_slice HO349.out; subst eo109) | (go_at_call 15; (with_reducible refine (ringworkref25_SameImages.calls k2 _ _ t346 _ _ l0 true _ ?side1 ?side2 ?side3 ?side4 A101.out).mono ?_); (case side1 => repeat (first | exact (Kd.R_reads' HO349.out).2.2 | (with_reducible refine Kd.C_alloc ?_ _) | (with_reducible refine Kd.C_drewN ?_ _) | (with_reducible refine Kd.C_drew ?_))); (case side2 => exact (Kd.R_reads' HO349.out).2.1); (case side3 => repeat (first | exact (Kd.C_below HR0.out HB.out) | (with_reducible refine Kd.C_alloc ?_ _) | (with_reducible refine Kd.C_drewN ?_ _) | (with_reducible refine Kd.C_drew ?_))); (case side4 => exact HC0.out); rintro e w' ⟨rfl, ⟨nd, rfl⟩⟩) | (go_at_call 12; (with_reducible refine (ringworklaw25_awake.calls  t351 _ A103.out).mono ?_); rintro e w110 ⟨rfl, hb⟩; have n0_ := Aside0.mk (Kd.R_below (by (with_reducible repeat (first | apply Kd.R_alloc | apply Kd.R_drewN | apply Kd.R_drew)); exact HO_7.out) hb); have n1_ := Aside0.mk (Kd.R_below (by (with_reducible repeat (first | apply Kd.R_alloc | apply Kd.R_drewN | apply Kd.R_drew)); exact HO_9.out) hb); have n2_ := Aside0.mk (Kd.R_below (by (with_reducible repeat (first | apply Kd.R_alloc | apply Kd.R_drewN | apply Kd.R_drew)); exact HO345.out) hb); have n3_ := Aside0.mk (Kd.R_below (by (with_reducible repeat (first | apply Kd.R_alloc | apply Kd.R_drewN | apply Kd.R_drew)); exact HO349.out) hb); have n4_ := Aside0.mk (below_step (by repeat (first | (with_reducible first | exact HB.out | apply below_alloc | apply pw_below_drewN | apply below_drew1) | exact HB.out)) hb); clear HO_7; clear HO_9; clear HO345; clear HO349; clear HB; have HO_7 := n0_; have HO_9 := n1_; have HO345 := n2_; have HO349 := n3_; have HB := n4_; clear n0_ n1_ n2_ n3_ n4_; (try clear hb); (try clear hb2); (try clear hk); (try clear hi)))
                      go_ret
                      exact ⟨by first | rfl | (simp [errW_none, errW_some] <;> rfl) | (simp [*, errW_none, errW_some] <;> rfl), by repeat (first | (with_reducible first | exact HB.out | apply below_alloc | apply pw_below_drewN | apply below_drew1) | exact HB.out)⟩
                    · replace c102 := Bool.eq_false_iff.mpr c102
                      subst c102
                      have H1 : (some false) = some r := by rw [if_neg (show ¬ (false = true) by decide)] at H; exact H
                      clear H
                      have H := H1
                      clear H1
                      obtain rfl := Option.some.inj H
                      obtain ⟨Ao111, co111, eo111⟩ := Kd.R_slice HO_9.out
                      subst eo111
                      go_wp2_with (first | ((with_reducible refine gate_callee (f := 16) rfl ?_); refine goesL_ (some 117) rfl rfl Try.func16 (by kernel_rfl) rfl #[.slice Ao111 x9_2.length co111, .int .i64 a2] rfl (by (try simp only [List.map_toArray, List.map_cons, List.map_nil]); first | done | rfl | (simp only [List.length_drop, List.length_take]; rfl)) ?_; (with_reducible refine (journal_Undo.calls _ _ x9_2 a2 t342 t343 _ ?side1 ?side2 A97.out).mono ?_); (case side1 => repeat (first | exact (Kd.R_reads' HO_9.out).2.2 | (with_reducible refine Kd.C_alloc ?_ _) | (with_reducible refine Kd.C_drewN ?_ _) | (with_reducible refine Kd.C_drew ?_))); (case side2 => exact (Kd.R_reads' HO_9.out).2.1); rintro e w112 ⟨v344, rfl, ho0, hb⟩; refine ⟨_, rfl, ?_⟩; have n0_ := Aside0.mk (Kd.R_elder' (by (with_reducible repeat (first | apply Kd.R_alloc | apply Kd.R_drewN | apply Kd.R_drew)); exact HO_7.out) (Kd.R_base ho0) hb); have n1_ := Aside0.mk (Kd.R_below (by (with_reducible repeat (first | apply Kd.R_alloc | apply Kd.R_drewN | apply Kd.R_drew)); exact HO_9.out) hb); have n2_ := Aside0.mk (Kd.R_lower (Kd.R_new' ho0 (Kd.R_lt (by (with_reducible repeat (first | apply Kd.R_alloc | apply Kd.R_drewN | apply Kd.R_drew)); exact HO_7.out))) (below_size (by repeat (first | (with_reducible first | exact HB.out | apply below_alloc | apply pw_below_drewN | apply below_drew1) | exact HB.out)))); have n3_ := Aside0.mk (below_step (by repeat (first | (with_reducible first | exact HB.out | apply below_alloc | apply pw_below_drewN | apply below_drew1) | exact HB.out)) hb); clear HO_7; clear HO_9; clear HB; have HO_7 := n0_; have HO_9 := n1_; have HO345 := n2_; have HB := n3_; clear n0_ n1_ n2_ n3_; (try clear hb); (try clear hb2); (try clear hk); (try clear hi); (try clear ho0); obtain ⟨Ao113, co113, eo113⟩ := Kd.R_slice HO_7.out; subst eo113; obtain ⟨Ao114, co114, eo114⟩ := Kd.R_slice HO345.out; subst eo114) | ((with_reducible refine gate_callee (f := 20) rfl ?_); refine goesL_ (some 125) rfl rfl Try.func20 (by kernel_rfl) rfl #[.slice Ao113 x7_2.length co113, .slice Ao114 t342.length co114] rfl (by (try simp only [List.map_toArray, List.map_cons, List.map_nil]); first | done | rfl | (simp only [List.length_drop, List.length_take]; rfl)) ?_; (with_reducible refine (journal_Apply.calls _ _ x7_2 _ _ t342 t346 t347 _ ?side1 ?side2 ?side3 ?side4 A99.out).mono ?_); (case side1 => repeat (first | exact (Kd.R_reads' HO_7.out).2.2 | (with_reducible refine Kd.C_alloc ?_ _) | (with_reducible refine Kd.C_drewN ?_ _) | (with_reducible refine Kd.C_drew ?_))); (case side2 => exact (Kd.R_reads' HO_7.out).2.1); (case side3 => repeat (first | exact (Kd.R_reads' HO345.out).2.2 | (with_reducible refine Kd.C_alloc ?_ _) | (with_reducible refine Kd.C_drewN ?_ _) | (with_reducible refine Kd.C_drew ?_))); (case side4 => exact (Kd.R_reads' HO345.out).2.1); rintro e w115 ⟨v348, rfl, ho0, hb⟩; refine ⟨_, rfl, ?_⟩; have n0_ := Aside0.mk (Kd.R_elder' (by (with_reducible repeat (first | apply Kd.R_alloc | apply Kd.R_drewN | apply Kd.R_drew)); exact HO_7.out) (Kd.R_base ho0) hb); have n1_ := Aside0.mk (Kd.R_below (by (with_reducible repeat (first | apply Kd.R_alloc | apply Kd.R_drewN | apply Kd.R_drew)); exact HO_9.out) hb); have n2_ := Aside0.mk (Kd.R_elder' (by (with_reducible repeat (first | apply Kd.R_alloc | apply Kd.R_drewN | apply Kd.R_drew)); exact HO345.out) (Kd.R_base ho0) hb); have n3_ := Aside0.mk (Kd.R_lower (Kd.R_new' (Kd.R_new' ho0 (Kd.R_lt (by (with_reducible repeat (first | apply Kd.R_alloc | apply Kd.R_drewN | apply Kd.R_drew)); exact HO_7.out))) (Kd.R_lt (by (with_reducible repeat (first | apply Kd.R_alloc | apply Kd.R_drewN | apply Kd.R_drew)); exact HO345.out))) (below_size (by repeat (first | (with_reducible first | exact HB.out | apply below_alloc | apply pw_below_drewN | apply below_drew1) | exact HB.out)))); have n4_ := Aside0.mk (below_step (by repeat (first | (with_reducible first | exact HB.out | apply below_alloc | apply pw_below_drewN | apply below_drew1) | exact HB.out)) hb); clear HO_7; clear HO_9; clear HO345; clear HB; have HO_7 := n0_; have HO_9 := n1_; have HO345 := n2_; have HO349 := n3_; have HB := n4_; clear n0_ n1_ n2_ n3_ n4_; (try clear hb); (try clear hb2); (try clear hk); (try clear hi); (try clear ho0); obtain ⟨Ao116, co116, eo116⟩ := Kd.R_slice HO349.out; subst eo116) | (go_at_call 15; (with_reducible refine (ringworkref25_SameImages.calls k2 _ _ t346 _ _ l0 false _ ?side1 ?side2 ?side3 ?side4 A101.out).mono ?_); (case side1 => repeat (first | exact (Kd.R_reads' HO349.out).2.2 | (with_reducible refine Kd.C_alloc ?_ _) | (with_reducible refine Kd.C_drewN ?_ _) | (with_reducible refine Kd.C_drew ?_))); (case side2 => exact (Kd.R_reads' HO349.out).2.1); (case side3 => repeat (first | exact (Kd.C_below HR0.out HB.out) | (with_reducible refine Kd.C_alloc ?_ _) | (with_reducible refine Kd.C_drewN ?_ _) | (with_reducible refine Kd.C_drew ?_))); (case side4 => exact HC0.out); rintro e w' ⟨rfl, ⟨nd, rfl⟩⟩))
                      go_ret
                      exact ⟨by first | rfl | (simp [errW_none, errW_some] <;> rfl) | (simp [*, errW_none, errW_some] <;> rfl), by repeat (first | (with_reducible first | exact HB.out | apply below_alloc | apply pw_below_drewN | apply below_drew1) | exact HB.out)⟩
                  · rw [if_neg c100] at H
                    have c100b0 : (t347 == 0) = false := beq_eq_false_iff_ne.mpr c100
                    have c100b1 : (t347 != 0) = true := bne_iff_ne.mpr c100
                    obtain rfl := Option.some.inj H
                    obtain ⟨Ao117, co117, eo117⟩ := Kd.R_slice HO_9.out
                    subst eo117
                    go_wp2_with (first | ((with_reducible refine gate_callee (f := 16) rfl ?_); refine goesL_ (some 117) rfl rfl Try.func16 (by kernel_rfl) rfl #[.slice Ao117 x9_2.length co117, .int .i64 a2] rfl (by (try simp only [List.map_toArray, List.map_cons, List.map_nil]); first | done | rfl | (simp only [List.length_drop, List.length_take]; rfl)) ?_; (with_reducible refine (journal_Undo.calls _ _ x9_2 a2 t342 t343 _ ?side1 ?side2 A97.out).mono ?_); (case side1 => repeat (first | exact (Kd.R_reads' HO_9.out).2.2 | (with_reducible refine Kd.C_alloc ?_ _) | (with_reducible refine Kd.C_drewN ?_ _) | (with_reducible refine Kd.C_drew ?_))); (case side2 => exact (Kd.R_reads' HO_9.out).2.1); rintro e w118 ⟨v344, rfl, ho0, hb⟩; refine ⟨_, rfl, ?_⟩; have n0_ := Aside0.mk (Kd.R_elder' (by (with_reducible repeat (first | apply Kd.R_alloc | apply Kd.R_drewN | apply Kd.R_drew)); exact HO_7.out) (Kd.R_base ho0) hb); have n1_ := Aside0.mk (Kd.R_below (by (with_reducible repeat (first | apply Kd.R_alloc | apply Kd.R_drewN | apply Kd.R_drew)); exact HO_9.out) hb); have n2_ := Aside0.mk (Kd.R_lower (Kd.R_new' ho0 (Kd.R_lt (by (with_reducible repeat (first | apply Kd.R_alloc | apply Kd.R_drewN | apply Kd.R_drew)); exact HO_7.out))) (below_size (by repeat (first | (with_reducible first | exact HB.out | apply below_alloc | apply pw_below_drewN | apply below_drew1) | exact HB.out)))); have n3_ := Aside0.mk (below_step (by repeat (first | (with_reducible first | exact HB.out | apply below_alloc | apply pw_below_drewN | apply below_drew1) | exact HB.out)) hb); clear HO_7; clear HO_9; clear HB; have HO_7 := n0_; have HO_9 := n1_; have HO345 := n2_; have HB := n3_; clear n0_ n1_ n2_ n3_; (try clear hb); (try clear hb2); (try clear hk); (try clear hi); (try clear ho0); obtain ⟨Ao119, co119, eo119⟩ := Kd.R_slice HO_7.out; subst eo119; obtain ⟨Ao120, co120, eo120⟩ := Kd.R_slice HO345.out; subst eo120) | ((with_reducible refine gate_callee (f := 20) rfl ?_); refine goesL_ (some 125) rfl rfl Try.func20 (by kernel_rfl) rfl #[.slice Ao119 x7_2.length co119, .slice Ao120 t342.length co120] rfl (by (try simp only [List.map_toArray, List.map_cons, List.map_nil]); first | done | rfl | (simp only [List.length_drop, List.length_take]; rfl)) ?_; (with_reducible refine (journal_Apply.calls _ _ x7_2 _ _ t342 t346 t347 _ ?side1 ?side2 ?side3 ?side4 A99.out).mono ?_); (case side1 => repeat (first | exact (Kd.R_reads' HO_7.out).2.2 | (with_reducible refine Kd.C_alloc ?_ _) | (with_reducible refine Kd.C_drewN ?_ _) | (with_reducible refine Kd.C_drew ?_))); (case side2 => exact (Kd.R_reads' HO_7.out).2.1); (case side3 => repeat (first | exact (Kd.R_reads' HO345.out).2.2 | (with_reducible refine Kd.C_alloc ?_ _) | (with_reducible refine Kd.C_drewN ?_ _) | (with_reducible refine Kd.C_drew ?_))); (case side4 => exact (Kd.R_reads' HO345.out).2.1); rintro e w121 ⟨v348, rfl, ho0, hb⟩; refine ⟨_, rfl, ?_⟩; have n0_ := Aside0.mk (Kd.R_elder' (by (with_reducible repeat (first | apply Kd.R_alloc | apply Kd.R_drewN | apply Kd.R_drew)); exact HO_7.out) (Kd.R_base ho0) hb); have n1_ := Aside0.mk (Kd.R_below (by (with_reducible repeat (first | apply Kd.R_alloc | apply Kd.R_drewN | apply Kd.R_drew)); exact HO_9.out) hb); have n2_ := Aside0.mk (Kd.R_elder' (by (with_reducible repeat (first | apply Kd.R_alloc | apply Kd.R_drewN | apply Kd.R_drew)); exact HO345.out) (Kd.R_base ho0) hb); have n3_ := Aside0.mk (Kd.R_lower (Kd.R_new' (Kd.R_new' ho0 (Kd.R_lt (by (with_reducible repeat (first | apply Kd.R_alloc | apply Kd.R_drewN | apply Kd.R_drew)); exact HO_7.out))) (Kd.R_lt (by (with_reducible repeat (first | apply Kd.R_alloc | apply Kd.R_drewN | apply Kd.R_drew)); exact HO345.out))) (below_size (by repeat (first | (with_reducible first | exact HB.out | apply below_alloc | apply pw_below_drewN | apply below_drew1) | exact HB.out)))); have n4_ := Aside0.mk (below_step (by repeat (first | (with_reducible first | exact HB.out | apply below_alloc | apply pw_below_drewN | apply below_drew1) | exact HB.out)) hb); clear HO_7; clear HO_9; clear HO345; clear HB; have HO_7 := n0_; have HO_9 := n1_; have HO345 := n2_; have HO349 := n3_; have HB := n4_; clear n0_ n1_ n2_ n3_ n4_; (try clear hb); (try clear hb2); (try clear hk); (try clear hi); (try clear ho0)))
                    go_ret
                    exact ⟨by first | rfl | (simp [errW_none, errW_some] <;> rfl) | (simp [*, errW_none, errW_some] <;> rfl), by repeat (first | (with_reducible first | exact HB.out | apply below_alloc | apply pw_below_drewN | apply below_drew1) | exact HB.out)⟩
                · rw [if_neg c98] at H
                  have c98b0 : (t343 == 0) = false := beq_eq_false_iff_ne.mpr c98
                  have c98b1 : (t343 != 0) = true := bne_iff_ne.mpr c98
                  obtain rfl := Option.some.inj H
                  obtain ⟨Ao122, co122, eo122⟩ := Kd.R_slice HO_9.out
                  subst eo122
                  go_wp2_with (first | ((with_reducible refine gate_callee (f := 16) rfl ?_); refine goesL_ (some 117) rfl rfl Try.func16 (by kernel_rfl) rfl #[.slice Ao122 x9_2.length co122, .int .i64 a2] rfl (by (try simp only [List.map_toArray, List.map_cons, List.map_nil]); first | done | rfl | (simp only [List.length_drop, List.length_take]; rfl)) ?_; (with_reducible refine (journal_Undo.calls _ _ x9_2 a2 t342 t343 _ ?side1 ?side2 A97.out).mono ?_); (case side1 => repeat (first | exact (Kd.R_reads' HO_9.out).2.2 | (with_reducible refine Kd.C_alloc ?_ _) | (with_reducible refine Kd.C_drewN ?_ _) | (with_reducible refine Kd.C_drew ?_))); (case side2 => exact (Kd.R_reads' HO_9.out).2.1); rintro e w123 ⟨v344, rfl, ho0, hb⟩; refine ⟨_, rfl, ?_⟩; have n0_ := Aside0.mk (Kd.R_elder' (by (with_reducible repeat (first | apply Kd.R_alloc | apply Kd.R_drewN | apply Kd.R_drew)); exact HO_7.out) (Kd.R_base ho0) hb); have n1_ := Aside0.mk (Kd.R_below (by (with_reducible repeat (first | apply Kd.R_alloc | apply Kd.R_drewN | apply Kd.R_drew)); exact HO_9.out) hb); have n2_ := Aside0.mk (Kd.R_lower (Kd.R_new' ho0 (Kd.R_lt (by (with_reducible repeat (first | apply Kd.R_alloc | apply Kd.R_drewN | apply Kd.R_drew)); exact HO_7.out))) (below_size (by repeat (first | (with_reducible first | exact HB.out | apply below_alloc | apply pw_below_drewN | apply below_drew1) | exact HB.out)))); have n3_ := Aside0.mk (below_step (by repeat (first | (with_reducible first | exact HB.out | apply below_alloc | apply pw_below_drewN | apply below_drew1) | exact HB.out)) hb); clear HO_7; clear HO_9; clear HB; have HO_7 := n0_; have HO_9 := n1_; have HO345 := n2_; have HB := n3_; clear n0_ n1_ n2_ n3_; (try clear hb); (try clear hb2); (try clear hk); (try clear hi); (try clear ho0)))
                  go_ret
                  exact ⟨by first | rfl | (simp [errW_none, errW_some] <;> rfl) | (simp [*, errW_none, errW_some] <;> rfl), by repeat (first | (with_reducible first | exact HB.out | apply below_alloc | apply pw_below_drewN | apply below_drew1) | exact HB.out)⟩
        · rw [if_neg c15] at H
          have c15b0 : (t315 == 0) = false := beq_eq_false_iff_ne.mpr c15
          have c15b1 : (t315 != 0) = true := bne_iff_ne.mpr c15
          replace H := Option.bind_eq_some_iff.mp H
          obtain ⟨t318, A1240, H⟩ := H
          replace H : (some t318) = some r := H
          have A124 := Aside0.mk A1240
          clear A1240
          obtain rfl := Option.some.inj H
          go_wp2_with (first | ((with_reducible refine gate_callee (f := 21) rfl ?_); refine goesL_ (some 40) rfl rfl Try.func21 (by kernel_rfl) rfl #[.slice A0 l0.length c0, .slice none 0 0] rfl (by (try simp only [List.map_toArray, List.map_cons, List.map_nil]); first | done | rfl | (simp only [List.length_drop, List.length_take]; rfl)) ?_; (refine (ringworkref25_Apply.calls kj3 _ _ l0 _ _ ([] : List (S41)) t314 t315 _ ?side1 ?side2 ?side3 ?side4 A14.out).mono ?_); (case side1 => repeat (first | exact (Kd.C_below HR0.out HB.out) | (with_reducible refine Kd.C_alloc ?_ _) | (with_reducible refine Kd.C_drewN ?_ _) | (with_reducible refine Kd.C_drew ?_))); (case side2 => exact HC0.out); (case side3 => exact Kd.C_nil _ _); (case side4 => exact Nat.le_refl _); rintro e w125 ⟨v316, rfl, ho0, hb⟩; refine ⟨_, rfl, ?_⟩; have n0_ := Aside0.mk (Kd.R_lower ho0 (below_size (by repeat (first | (with_reducible first | exact HB.out | apply below_alloc | apply pw_below_drewN | apply below_drew1) | exact HB.out)))); have n1_ := Aside0.mk (below_step (by repeat (first | (with_reducible first | exact HB.out | apply below_alloc | apply pw_below_drewN | apply below_drew1) | exact HB.out)) hb); clear HB; have HO317 := n0_; have HB := n1_; clear n0_ n1_; (try clear hb); (try clear hb2); (try clear hk); (try clear hi); (try clear ho0)) | ((with_reducible refine gate_callee (f := 12) rfl ?_); refine goesL_ (some 45) rfl rfl Try.func12 (by kernel_rfl) rfl #[] rfl (by (try simp only [List.map_toArray, List.map_cons, List.map_nil]); first | done | rfl | (simp only [List.length_drop, List.length_take]; rfl)) ?_; (with_reducible refine (ringworklaw25_awake.calls  t318 _ A124.out).mono ?_); rintro e w126 ⟨rfl, hb⟩; refine ⟨_, rfl, ?_⟩; have n0_ := Aside0.mk (Kd.R_below (by (with_reducible repeat (first | apply Kd.R_alloc | apply Kd.R_drewN | apply Kd.R_drew)); exact HO317.out) hb); have n1_ := Aside0.mk (below_step (by repeat (first | (with_reducible first | exact HB.out | apply below_alloc | apply pw_below_drewN | apply below_drew1) | exact HB.out)) hb); clear HO317; clear HB; have HO317 := n0_; have HB := n1_; clear n0_ n1_; (try clear hb); (try clear hb2); (try clear hk); (try clear hi)))
          go_ret
          exact ⟨by first | rfl | (simp [errW_none, errW_some] <;> rfl) | (simp [*, errW_none, errW_some] <;> rfl), by repeat (first | (with_reducible first | exact HB.out | apply below_alloc | apply pw_below_drewN | apply below_drew1) | exact HB.out)⟩

end Go.Proofs.Yteblpjnkinghoaa.J
/- JournalUndone holds of every input, in plain words. -/
namespace Go.Proofs.Yteblpjnkinghoaa.J
open Go.RowKit Go.Proofs.YteblpjnkinghoaaW.PrintWords
/-- What was found of a key among the images before an index. -/
def wasOf (l : List S41) (key : ByteArray) (st : Bool × ByteArray) : Bool × ByteArray := match look l key with
  | some y => (true, y.f2)
  | none => st
theorem undone_was (x0 : List S41) (x1 : List S41) (u : Int) (s : List S41) (x9 : List S39) (x10 : Int) (x : S41) (hs : Sorted s) (hl : s.length ≤ 500) (v : Bool) : ∀ (d i : Nat), d = s.length - i → i ≤ s.length → ∀ (h : Bool) (t : ByteArray),
    Ev (fun k => ringworklaw25_JournalUndone.l1 k x0 x1 u s x9 x10 (s.length : Int) x.f0 x.f1 x.f2 2 u x.f0 (wasOf (s.drop i) x.f0 (h, t)).1 (wasOf (s.drop i) x.f0 (h, t)).2) v →
    Ev (fun k => ringworklaw25_JournalUndone.l1 k x0 x1 u s x9 x10 (i : Int) x.f0 x.f1 x.f2 2 u x.f0 h t) v
  | 0, i, hd, hi, h, t, H => by
    have : i = s.length := by omega
    subst this
    rw [List.drop_length] at H
    exact H
  | d + 1, i, hd, hi, h, t, H => by
    have hlt : i < s.length := by omega
    have next := undone_was x0 x1 u s x9 x10 x hs hl v d (i + 1) (by omega) (by omega)
    rw [← wrap_next hlt (by omega)] at next
    refine Ev.step (fun k => by rw [ringworklaw25_JournalUndone.l1, if_pos (by omega), if_pos (by omega)]) ?_
    have hdr := drop_rd41 hlt
    have hso : Sorted (s.drop i) := hs.sublist (List.drop_sublist _ _)
    rw [hdr] at H hso
    generalize rd_T41 s (i : Int) = y at H hso ⊢
    by_cases hk : y.f0 = x.f0
    · simp only [if_pos (show y.f0.toList = x.f0.toList by rw [hk])]
      refine next true y.f2 ?_
      have e : wasOf (y :: s.drop (i + 1)) x.f0 (h, t) = (true, y.f2) := by
        unfold wasOf; rw [look_cons, if_pos hk]
      have e2 : wasOf (s.drop (i + 1)) x.f0 (true, y.f2) = (true, y.f2) := by
        unfold wasOf
        rw [look_none (fun z hz => by rw [← hk]; exact (kless_ne ((List.pairwise_cons.1 hso).1 z hz)).symm)]
      rw [e] at H; rw [e2]; exact H
    · simp only [if_neg (show ¬ y.f0.toList = x.f0.toList from fun e => hk (toList_inj e))]
      refine next h t ?_
      have e : wasOf (y :: s.drop (i + 1)) x.f0 (h, t) = wasOf (s.drop (i + 1)) x.f0 (h, t) := by
        unfold wasOf; rw [look_cons, if_neg hk]
      rw [e] at H; exact H
theorem undone_from (x0 x1 : List S41) (u : Int) (hu : 1 ≤ u ∧ u ≤ 1000) (hb : ordV x0 = true) (hx : x1.length ≤ 25) : ∀ (d i : Nat), d = x1.length - i → i ≤ x1.length → (x1.take i).all img = true → ordV ((x1.take i).foldl apStep x0) = true →
    Ev (fun k => ringworklaw25_JournalUndone.l0 k x0 x1 u ((x1.take i).foldl apStep x0) (begun u :: noted u x0 (x1.take i)) (i : Int)) true
  | 0, i, hd, hi, hv, ho => by
    have : i = x1.length := by omega
    subst this
    rw [List.take_length] at hv ho ⊢
    obtain ⟨_, ha, h5⟩ := (ordV_iff x0).1 hb
    refine Ev.step (fun k => by rw [ringworklaw25_JournalUndone.l0, if_neg (by omega), undo_eq hu ha hv (by omega)]) ?_
    simp only [Option.bind_some, if_true, undone hb hv ho (show x1.length ≤ 400 by omega)]
    refine Ev.bind (ref_same x0 (by omega)) ?_
    simp only [if_true, awake_true, Option.bind_some]
    exact Ev.val _
  | d + 1, i, hd, hi, hv, ho => by
    have hlt : i < x1.length := by omega
    have ih := undone_from x0 x1 u hu hb hx d (i + 1) (by omega) (by omega)
    obtain ⟨hs, ha, h5⟩ := (ordV_iff _).1 ho
    have htk : x1.take (i + 1) = x1.take i ++ [rd_T41 x1 (i : Int)] := by
      rw [rd_mem hlt, List.take_succ_eq_append_getElem hlt]
    rw [htk, List.foldl_append, noted_snoc, List.all_append, hv, Bool.true_and] at ih
    refine Ev.step (fun k => by rw [ringworklaw25_JournalUndone.l0, if_pos (by omega), if_pos (by omega)]) ?_
    generalize rd_T41 x1 (i : Int) = x at ih ⊢
    generalize hst : (x1.take i).foldl apStep x0 = s at hs ha h5 ho ih ⊢
    refine undone_was x0 x1 u s _ (i : Int) x hs h5 true s.length 0 (by omega) (by omega) false ⟨#[]⟩ ?_
    rw [List.drop_zero]
    refine Ev.step (fun k => by rw [ringworklaw25_JournalUndone.l1, if_neg (by omega)]) ?_
    have hbe : (⟨2, u, x.f0, (wasOf s x.f0 (false, ⟨#[]⟩)).1, (wasOf s x.f0 (false, ⟨#[]⟩)).2⟩ : S39) = beforeOf u s x := by
      unfold wasOf beforeOf
      cases look s x.f0 <;> rfl
    simp only [Option.bind_some, hbe]
    have hlen : (begun u :: noted u x0 (x1.take i)).length ≤ 51 := by
      rw [List.length_cons, noted_len, List.length_take]; omega
    simp only [List.length_cons, List.length_nil] at hlen ⊢
    simp only [if_pos (show (noted u x0 (x1.take i)).length + 1 + (0 + 1 + 1) < 2513169434916 by omega)]
    rw [apply_eq (by simp) ho]
    by_cases hi2 : ([(⟨x.f0, x.f1, x.f2⟩ : S41)]).all img = true
    · rw [if_pos hi2]
      by_cases h6 : 500 < ([(⟨x.f0, x.f1, x.f2⟩ : S41)].foldl apStep s).length
      · rw [if_pos h6]
        simp only [Option.bind_some, if_neg (show ¬ (4 : Int) = 0 by decide), if_neg (show ¬ (4 : Int) = 1 by decide), if_true, awake_true]
        exact Ev.val _
      · rw [if_neg h6]
        simp only [Option.bind_some, if_true]
        rw [wrap_next hlt (by omega)]
        have ho2 : ordV ([x].foldl apStep s) = true := (apply_once (s := s) (a := [x]) (r := [x].foldl apStep s) (by rw [apply_eq (by simp) ho, if_pos hi2, if_neg h6])).2.2.2.1
        have := ih hi2 ho2
        exact this
    · rw [if_neg hi2]
      simp only [Option.bind_some, if_neg (show ¬ (1 : Int) = 0 by decide), if_true, awake_true]
      exact Ev.val _
theorem undone_law (base images : List S41) (u : Int) (hb : base.length ≤ 9223372036854775807) (hi : images.length ≤ 9223372036854775807) : Ev (fun k => ringworklaw25_JournalUndone.f k base images u) true := by
  unfold ringworklaw25_JournalUndone.f
  have hawake : Ev (fun k => ringworklaw25_JournalUndone.j0 k base images u true) true := Ev.step (fun k => by rw [ringworklaw25_JournalUndone.j0, if_pos rfl, awake_true]; rfl) (Ev.val _)
  obtain ⟨b1, h1, _⟩ := images_guard base hb
  obtain ⟨b2, h2, _⟩ := images_guard images hi
  refine Ev.bind h1 ?_
  cases b1 with
  | false => exact hawake
  | true =>
    simp only [if_true]
    refine Ev.bind h2 ?_
    cases b2 with
    | false => exact hawake
    | true =>
      simp only [if_true]
      by_cases hz : (images.length : Int) > 25
      · simp only [if_pos hz]; exact hawake
      · simp only [if_neg hz]
        by_cases hu1 : u < 1
        · simp only [if_pos hu1]; exact hawake
        · simp only [if_neg hu1]
          by_cases hu2 : u > 1000
          · rw [decide_eq_true hu2]; exact hawake
          · rw [decide_eq_false hu2]
            refine Ev.step (fun k => by rw [ringworklaw25_JournalUndone.j0, if_neg (by decide)]) ?_
            obtain ⟨r, hr, hR⟩ := ref_Apply base [] (by simp)
            refine Ev.bind hR ?_
            by_cases hr0 : r.2 = 0
            · simp only [if_pos hr0]
              obtain ⟨ho, _, he, _, _⟩ := apply_once (s := base) (a := []) (r := r.1) (by rw [hr, ← hr0])
              rw [he]
              exact undone_from base images u ⟨by omega, by omega⟩ ho (by omega) images.length 0 (by omega) (by omega) rfl ho
            · simp only [if_neg hr0, awake_true, Option.bind_some]; exact Ev.val _
end Go.Proofs.Yteblpjnkinghoaa.J
/- A slice of images, or of notes, that reads as data: its cells. -/
namespace Go.Proofs.Yteblpjnkinghoaa.J
open Go.RowKit Go.Deep Go.ChangeShapes Go.WideShapes Go.Proofs.YteblpjnkinghoaaW.PrintWords
section
variable {H : Type} {enc : TypeId × Value → H} {w : World} {base : Nat} {spare : Nat → Bool} {held : Bool}
set_option maxRecDepth 100000 in
theorem reads41 {fuel : Nat} {A : Option Addr} {n c : Nat} {x : DataW H × List MemPlace} (h : DataW.trod enc Try.prog w base spare held fuel 22 [.slice A n c] = some x) : ∃ l : List S41, l.length = n ∧ n ≤ c ∧ Kd.C k41 w A n l := by
  rcases open_slice Try.underlying22 h with ⟨hc, _⟩ | ⟨a, len, cap, m, q, D, Pl, hc, hb, hl, hm, hmm, _, hx⟩
  · simp at hc
    obtain ⟨rfl, rfl, rfl⟩ := hc
    exact ⟨[], rfl, Nat.le_refl _, Kd.C_nil _ _⟩
  · simp at hc
    obtain ⟨rfl, rfl, rfl⟩ := hc
    have hlm : n ≤ m := by rw [hmm]; split <;> omega
    have each : ∀ i, i < n → ∃ y : S41, w.cell? (a.add (i * 3)) = some (.string y.f0) ∧ w.cell? (a.add (i * 3 + 1)) = some (.bool y.f1) ∧ w.cell? (a.add (i * 3 + 2)) = some (.string y.f2) := fun i hi => by
      obtain ⟨cs', h1, h2⟩ := hx i (by omega)
      have ce : Try.prog.cellsOf 41 = 3 := by kernel_rfl
      rw [ce] at h1
      obtain ⟨_, hlen, hcell⟩ := World.cells?_some h1
      obtain ⟨xs, k, _, _, _, hxl, hf⟩ := DataW.trod_struct Try.underlying41 h2
      match xs, hxl, cs', hlen with
      | [y0, y1, y2], _, [v0, v1, v2], _ =>
        have c9 : Try.prog.cellsOf 9 = 1 := by kernel_rfl
        have c4 : Try.prog.cellsOf 4 = 1 := by kernel_rfl
        have g0 := hf 0 _ rfl
        have g1 := hf 1 _ rfl
        have g2 := hf 2 _ rfl
        simp [c9, c4] at g0 g1 g2
        obtain ⟨s0, e0, _⟩ := DataW.trod_string Try.underlying9 g0
        obtain ⟨b1, e1, _⟩ := DataW.trod_bool Try.underlying4 g1
        obtain ⟨s2, e2, _⟩ := DataW.trod_string Try.underlying9 g2
        cases e0; cases e1; cases e2
        have q0 := hcell 0 (by omega)
        have q1 := hcell 1 (by omega)
        have q2 := hcell 2 (by omega)
        rw [Deep.add_add] at q0 q1 q2
        exact ⟨⟨s0, b1, s2⟩, by simpa using q0, by simpa using q1, by simpa using q2⟩
    haveI : Inhabited S41 := ⟨⟨⟨#[]⟩, false, ⟨#[]⟩⟩⟩
    obtain ⟨f, hf⟩ := choose_lt each
    refine ⟨(List.range n).map f, by simp, hl, by simp, by simp only [maxLen] at hm; omega, fun _ => ⟨a, rfl, fun j p hj => ?_⟩⟩
    rw [List.getElem?_map] at hj
    obtain ⟨j', hj', rfl⟩ := Option.map_eq_some_iff.1 hj
    have hjn : j < n := by have := (List.getElem?_eq_some_iff.1 hj').1; simpa using this
    have : j' = j := by rw [List.getElem?_range hjn] at hj'; exact (Option.some.inj hj').symm
    subst this
    obtain ⟨q0, q1, q2⟩ := hf j' hjn
    refine ⟨_, rfl, k41_mk w (f j'), fun i u hu => ?_⟩
    have : i = 0 ∨ i = 1 ∨ i = 2 := by have := (List.getElem?_eq_some_iff.1 hu).1; simp at this; omega
    rcases this with rfl | rfl | rfl <;> cases hu
    · exact q0
    · exact q1
    · exact q2
end
end Go.Proofs.Yteblpjnkinghoaa.J
/- the law JournalUndone holds of every input: it returns true, and its arguments read behind the call as they read before. Conditions: none. -/
namespace Go.Proofs.Yteblpjnkinghoaa.journalUndone
open Go.ChangeShapes Go.WideShapes Go.ChangeAt Go.RowKit Go.Proofs.Yteblpjnkinghoaa.J
open Go.ChangeMaps (open_string shut_string)
theorem own : ownKnob Try.prog.godebug = none := by kernel_rfl
theorem laidOut : laidOutB Try.prog = true := by kernel_rfl
set_option maxRecDepth 100000 in
theorem lifted (os : Os) (started : os.Started) (H : Type) (enc : TypeId × Value → H) :
    ReturnsInHanded {} Try.checked os 5 .any (Rows.journalUndoneSpec.pre6 enc Try.prog Try.f5 Rows.journalUndoneRow.domain false) (Rows.journalUndoneSpec.post enc Try.prog Try.f5 false true false false) := by
  refine returnsInHanded_of_change_sized (C := Try.checked) own started (by kernel_rfl) Try.func5
    (ChangeSpec.witness6 (enc := enc) (C := Try.checked) false ⟨#[], #[.slice none 0 0, .slice none 0 0, .int .i64 0], []⟩ 8 (by kernel_rfl) (by kernel_rfl) (by kernel_rfl) (by kernel_rfl)) ?_
  intro W base args ds gs before hval0 hW hcnd hsz0 _
  have hsz : (DataW.weightsEach Try.prog (Try.f5.params.toList ++ Rows.journalUndoneSpec.plain.varTypes Try.prog) (ds ++ gs)).all (· ≤ reachBytes) = true := hsz0
  have hval : ∀ (j : Nat) t v, Try.f5.params[j]? = some t → args[j]? = some v → Value.okWide Try.prog W .any base t v := hval0
  have hW' := hW
  obtain ⟨p, q, hA0, hV, rfl, hfz, hnd⟩ := hW
  have hA : DataW.TrodAll enc Try.prog W 0 (fun _ => true) true Try.f5.params.toList args.toList ds p := hA0
  rw [Try.params5] at hA hval hsz
  obtain ⟨v0, vs0, d0, ds0, p0, q0, hargs, rfl, rfl, h0, r0⟩ := trodAll_cons hA
  obtain ⟨v1, vs1, d1, ds1, p1, q1, rfl, rfl, rfl, h1, r1⟩ := trodAll_cons r0
  obtain ⟨v2, vs2, d2, ds2, p2, q2, rfl, rfl, rfl, h2, r2⟩ := trodAll_cons r1
  obtain ⟨rfl, rfl, rfl⟩ := trodAll_nil r2
  obtain rfl : args = #[v0, v1, v2] := by cases args; simp_all
  obtain ⟨rfl, rfl⟩ := trodVars_none hV
  obtain ⟨a0, len0, cap0, rfl⟩ := okWide_slice Try.underlying22 (hval 0 22 v0 rfl rfl)
  have k0 := h0
  have lt0 : ∀ x ∈ p0, x.block < W.heap.size := by obtain ⟨m, hm⟩ := k0; exact DataW.trod_lt m _ _ _ hm
  obtain ⟨l0, rfl, hc0, hr0⟩ : ∃ l, List.length l = len0 ∧ len0 ≤ cap0 ∧ Go.Proofs.YteblpjnkinghoaaW.PrintWords.Kd.C k41 W a0 len0 l := by obtain ⟨fuel, hf⟩ := h0; exact reads41 hf
  obtain ⟨a1, len1, cap1, rfl⟩ := okWide_slice Try.underlying22 (hval 1 22 v1 rfl rfl)
  have k1 := h1
  have lt1 : ∀ x ∈ p1, x.block < W.heap.size := by obtain ⟨m, hm⟩ := k1; exact DataW.trod_lt m _ _ _ hm
  obtain ⟨l1, rfl, hc1, hr1⟩ : ∃ l, List.length l = len1 ∧ len1 ≤ cap1 ∧ Go.Proofs.YteblpjnkinghoaaW.PrintWords.Kd.C k41 W a1 len1 l := by obtain ⟨fuel, hf⟩ := h1; exact reads41 hf
  obtain ⟨a2, rfl, rfl, rfl, w2⟩ := open_int Try.underlying3 (hval 2 3 v2 rfl rfl) h2
  clear hA0 hval0 hsz0 hsz
  obtain ⟨k, hk⟩ := (undone_law l0 l1 a2 (Go.Proofs.YteblpjnkinghoaaW.PrintWords.Kd.C_max hr0) (Go.Proofs.YteblpjnkinghoaaW.PrintWords.Kd.C_max hr1)).ex
  refine (ringworklaw25_JournalUndone.calls k a0 cap0 l0 a1 cap1 l1 a2 true W hr0 hc0 hr1 hc1 hk).mono fun e W' ⟨he, bel⟩ => ?_
  subst he
  exact ⟨_, rfl, _, _, _, [], _, [], hW', trodAll_mk1 (shut_bool Try.underlying4 _), (trodAll_cons_mk (Below.trod laidOut (by kernel_rfl) (of_decide_eq_true (by kernel_rfl)) k0 bel lt0) (trodAll_cons_mk (Below.trod laidOut (by kernel_rfl) (of_decide_eq_true (by kernel_rfl)) k1 bel lt1) (trodAll_cons_mk (shut_int Try.underlying3 w2) trodAll_mk0))), rfl, bel.frame _, fun h => by cases h⟩
theorem over : Rows.journalUndoneRow.holds Try.pinned (OpenSpec.ofChange Rows.journalUndoneSpec) :=
  OpenClaim.holds_of_wide 5 Try.f5 rfl rfl rfl rfl rfl rfl rfl ⟨rfl, rfl, rfl, rfl, rfl⟩ rfl rfl rfl rfl rfl (by kernel_rfl) Try.func5 (by kernel_rfl)
    (of_decide_eq_true (by kernel_rfl)) (by unfold Func.isWrapper; first | (rw [if_pos (by decide +kernel)]; kernel_rfl) | (rw [if_neg (by decide +kernel)]; exact ⟨rfl, rfl⟩))
    (fun os started H enc _ => lifted os started H enc)
theorem proved : Rows.JournalUndoneSaid := over
#print axioms proved
end Go.Proofs.Yteblpjnkinghoaa.journalUndone
namespace Go.Proofs.Yteblpjnkinghoaa
/-- The row, under a short name, for the claim. -/
theorem journalUndone_holds : Rows.JournalUndoneSaid := journalUndone.proved
end Go.Proofs.Yteblpjnkinghoaa
