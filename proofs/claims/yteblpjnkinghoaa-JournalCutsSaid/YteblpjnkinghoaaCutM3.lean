/- The law JournalCuts holds of every input: it returns true, and its arguments read behind the call as they read before. Conditions: none. -/
import Derived.Deep.SlicePairs
import Derived.Test.YteblpjnkinghoaaRows
import Derived.WalkKit
import Derived.ProofKit
import Derived.OpenShut
import Derived.ShutString
import Derived.ChangeOld
import Derived.Below
import Derived.SizedLaws
import Derived.Test.YteblpjnkinghoaaCutM0
import Derived.Test.YteblpjnkinghoaaCutM1
import Derived.Test.YteblpjnkinghoaaCutM2
set_option linter.unusedVariables false
set_option linter.unusedSimpArgs false
namespace Go.Proofs.Yteblpjnkinghoaa.J
open Go.RowKit Go.Proofs.YteblpjnkinghoaaW.PrintWords Go.Proofs.YteblpjnkinghoaaW.PrintLast Go.Proofs.YteblpjnkinghoaaW.PrintMore
attribute [local go_sem] max2_int min2_int max_two min_two max_three min_three max_four min_four   -- for this text's walks alone
set_option linter.unusedVariables false
set_option linter.unusedSimpArgs false
/-! ### journal_State: function 14 -/
def journal_State.f (l0 : List (S41)) (l1 : List (S39)) : Option ((List (S41)) × Int) := (journal_ordered.f l0).bind fun t188 => (if t188 = true then ((journal_Redo.f l1 0).bind fun bt189 => (if bt189.2 = 0 then ((journal_Apply.f l0 bt189.1).bind fun bt193 => (some (bt193.1, bt193.2))) else (some (([] : List (S41)), bt189.2)))) else (some (([] : List (S41)), 1)))
set_option maxHeartbeats 8000000 in
set_option maxRecDepth 100000 in
theorem journal_State.calls (A0 : Option Addr) (c0 : Nat) (l0 : List (S41)) (A1 : Option Addr) (c1 : Nat) (l1 : List (S39)) (r1 : List (S41)) (r2 : Int) (w : World) (hr0 : Kd.C k41 w A0 l0.length l0) (hc0 : l0.length ≤ c0) (hr1 : Kd.C k39 w A1 l1.length l1) (hc1 : l1.length ≤ c1) (h : journal_State.f l0 l1 = some (r1, r2)) :
    Calls Try.prog 14 #[.slice A0 l0.length c0, .slice A1 l1.length c1] w fun e w' => ∃ v0_ : Value, e = .returned (.tuple #[v0_, .int .i64 r2]) ∧ Kd.R k41 41 w' w.heap.size (fun _ => True) v0_ r1 ∧ Below w.heap.size w w' := by
  have HR0 := Aside0.mk hr0
  have HC0 := Aside0.mk hc0
  clear hr0 hc0
  have HR1 := Aside0.mk hr1
  have HC1 := Aside0.mk hc1
  clear hr1 hc1
  have HB := Aside0.mk (Below.refl w.heap.size w)
  have H : ((journal_ordered.f l0).bind fun t188 => (if t188 = true then ((journal_Redo.f l1 0).bind fun bt189 => (if bt189.2 = 0 then ((journal_Apply.f l0 bt189.1).bind fun bt193 => (some (bt193.1, bt193.2))) else (some (([] : List (S41)), bt189.2)))) else (some (([] : List (S41)), 1)))) = some (r1, r2) := h
  clear h
  replace H := Option.bind_eq_some_iff.mp H
  obtain ⟨t188, A30, H⟩ := H
  replace H : (if t188 = true then ((journal_Redo.f l1 0).bind fun bt189 => (if bt189.2 = 0 then ((journal_Apply.f l0 bt189.1).bind fun bt193 => (some (bt193.1, bt193.2))) else (some (([] : List (S41)), bt189.2)))) else (some (([] : List (S41)), 1))) = some (r1, r2) := H
  have A3 := Aside0.mk A30
  clear A30
  by_cases c4 : t188 = true
  · subst c4
    have H1 : ((journal_Redo.f l1 0).bind fun bt189 => (if bt189.2 = 0 then ((journal_Apply.f l0 bt189.1).bind fun bt193 => (some (bt193.1, bt193.2))) else (some (([] : List (S41)), bt189.2)))) = some (r1, r2) := by rw [if_pos rfl] at H; exact H
    clear H
    have H := H1
    clear H1
    replace H := Option.bind_eq_some_iff.mp H
    obtain ⟨⟨t189, t190⟩, A50, H⟩ := H
    replace H : (if t190 = 0 then ((journal_Apply.f l0 t189).bind fun bt193 => (some (bt193.1, bt193.2))) else (some (([] : List (S41)), t190))) = some (r1, r2) := H
    have A5 := Aside0.mk A50
    clear A50
    by_cases c6 : t190 = 0
    · rw [if_pos c6] at H
      have c6b0 : (t190 == 0) = true := beq_iff_eq.mpr c6
      have c6b1 : (t190 != 0) = false := bne_eq_false_iff_eq.mpr c6
      clear c6
      replace H := Option.bind_eq_some_iff.mp H
      obtain ⟨⟨t193, t194⟩, A70, H⟩ := H
      replace H : (some (t193, t194)) = some (r1, r2) := H
      have A7 := Aside0.mk A70
      clear A70
      simp only [Option.some.injEq, Prod.mk.injEq] at H
      obtain ⟨rfl, rfl⟩ := H
      go_enter Try.func14, Try.ntmps14
      go_wp2_with (first | ((with_reducible refine gate_callee (f := 36) rfl ?_); refine goesL_ (some 9) rfl rfl Try.func36 (by kernel_rfl) rfl #[.slice A0 l0.length c0] rfl (by (try simp only [List.map_toArray, List.map_cons, List.map_nil]); first | done | rfl | (simp only [List.length_drop, List.length_take]; rfl)) ?_; (with_reducible refine (journal_ordered.calls _ _ l0 true _ ?side1 ?side2 A3.out).mono ?_); (case side1 => repeat (first | exact HR0.out | (with_reducible refine Kd.C_alloc ?_ _) | (with_reducible refine Kd.C_drewN ?_ _) | (with_reducible refine Kd.C_drew ?_))); (case side2 => exact HC0.out); rintro e w8 ⟨rfl, hb⟩; refine ⟨_, rfl, ?_⟩; have n0_ := Aside0.mk (below_step (by repeat (first | (with_reducible first | exact HB.out | apply below_alloc | apply pw_below_drewN | apply below_drew1) | exact HB.out)) hb); clear HB; have HB := n0_; clear n0_; (try clear hb); (try clear hb2); (try clear hk); (try clear hi)) | ((with_reducible refine gate_callee (f := 18) rfl ?_); refine goesL_ (some 13) rfl rfl Try.func18 (by kernel_rfl) rfl #[.slice A1 l1.length c1, .int .i64 0] rfl (by (try simp only [List.map_toArray, List.map_cons, List.map_nil]); first | done | rfl | (simp only [List.length_drop, List.length_take]; rfl)) ?_; (with_reducible refine (journal_Redo.calls _ _ l1 0 t189 t190 _ ?side1 ?side2 A5.out).mono ?_); (case side1 => repeat (first | exact (Kd.C_below HR1.out HB.out) | (with_reducible refine Kd.C_alloc ?_ _) | (with_reducible refine Kd.C_drewN ?_ _) | (with_reducible refine Kd.C_drew ?_))); (case side2 => exact HC1.out); rintro e w9 ⟨v191, rfl, ho0, hb⟩; refine ⟨_, rfl, ?_⟩; have n0_ := Aside0.mk (Kd.R_lower ho0 (below_size (by repeat (first | (with_reducible first | exact HB.out | apply below_alloc | apply pw_below_drewN | apply below_drew1) | exact HB.out)))); have n1_ := Aside0.mk (below_step (by repeat (first | (with_reducible first | exact HB.out | apply below_alloc | apply pw_below_drewN | apply below_drew1) | exact HB.out)) hb); clear HB; have HO192 := n0_; have HB := n1_; clear n0_ n1_; (try clear hb); (try clear hb2); (try clear hk); (try clear hi); (try clear ho0); obtain ⟨Ao10, co10, eo10⟩ := Kd.R_slice HO192.out; subst eo10) | ((with_reducible refine gate_callee (f := 20) rfl ?_); refine goesL_ (some 21) rfl rfl Try.func20 (by kernel_rfl) rfl #[.slice A0 l0.length c0, .slice Ao10 t189.length co10] rfl (by (try simp only [List.map_toArray, List.map_cons, List.map_nil]); first | done | rfl | (simp only [List.length_drop, List.length_take]; rfl)) ?_; (with_reducible refine (journal_Apply.calls _ _ l0 _ _ t189 t193 t194 _ ?side1 ?side2 ?side3 ?side4 A7.out).mono ?_); (case side1 => repeat (first | exact (Kd.C_below HR0.out HB.out) | (with_reducible refine Kd.C_alloc ?_ _) | (with_reducible refine Kd.C_drewN ?_ _) | (with_reducible refine Kd.C_drew ?_))); (case side2 => exact HC0.out); (case side3 => repeat (first | exact (Kd.R_reads' HO192.out).2.2 | (with_reducible refine Kd.C_alloc ?_ _) | (with_reducible refine Kd.C_drewN ?_ _) | (with_reducible refine Kd.C_drew ?_))); (case side4 => exact (Kd.R_reads' HO192.out).2.1); rintro e w11 ⟨v195, rfl, ho0, hb⟩; refine ⟨_, rfl, ?_⟩; have n0_ := Aside0.mk (Kd.R_elder' (by (with_reducible repeat (first | apply Kd.R_alloc | apply Kd.R_drewN | apply Kd.R_drew)); exact HO192.out) (Kd.R_base ho0) hb); have n1_ := Aside0.mk (Kd.R_lower (Kd.R_new' ho0 (Kd.R_lt (by (with_reducible repeat (first | apply Kd.R_alloc | apply Kd.R_drewN | apply Kd.R_drew)); exact HO192.out))) (below_size (by repeat (first | (with_reducible first | exact HB.out | apply below_alloc | apply pw_below_drewN | apply below_drew1) | exact HB.out)))); have n2_ := Aside0.mk (below_step (by repeat (first | (with_reducible first | exact HB.out | apply below_alloc | apply pw_below_drewN | apply below_drew1) | exact HB.out)) hb); clear HO192; clear HB; have HO192 := n0_; have HO196 := n1_; have HB := n2_; clear n0_ n1_ n2_; (try clear hb); (try clear hb2); (try clear hk); (try clear hi); (try clear ho0)))
      go_ret2
      exact ⟨_, by first | rfl | (simp [errW_none, errW_some] <;> rfl) | (simp [*, errW_none, errW_some] <;> rfl), by (with_reducible repeat (first | apply Kd.R_alloc | apply Kd.R_drewN | apply Kd.R_drew)); exact Kd.R_mono HO196.out (fun _ hk => trivial), by repeat (first | (with_reducible first | exact HB.out | apply below_alloc | apply pw_below_drewN | apply below_drew1) | exact HB.out)⟩
    · rw [if_neg c6] at H
      have c6b0 : (t190 == 0) = false := beq_eq_false_iff_ne.mpr c6
      have c6b1 : (t190 != 0) = true := bne_iff_ne.mpr c6
      simp only [Option.some.injEq, Prod.mk.injEq] at H
      obtain ⟨rfl, rfl⟩ := H
      go_enter Try.func14, Try.ntmps14
      go_wp2_with (first | ((with_reducible refine gate_callee (f := 36) rfl ?_); refine goesL_ (some 9) rfl rfl Try.func36 (by kernel_rfl) rfl #[.slice A0 l0.length c0] rfl (by (try simp only [List.map_toArray, List.map_cons, List.map_nil]); first | done | rfl | (simp only [List.length_drop, List.length_take]; rfl)) ?_; (with_reducible refine (journal_ordered.calls _ _ l0 true _ ?side1 ?side2 A3.out).mono ?_); (case side1 => repeat (first | exact HR0.out | (with_reducible refine Kd.C_alloc ?_ _) | (with_reducible refine Kd.C_drewN ?_ _) | (with_reducible refine Kd.C_drew ?_))); (case side2 => exact HC0.out); rintro e w12 ⟨rfl, hb⟩; refine ⟨_, rfl, ?_⟩; have n0_ := Aside0.mk (below_step (by repeat (first | (with_reducible first | exact HB.out | apply below_alloc | apply pw_below_drewN | apply below_drew1) | exact HB.out)) hb); clear HB; have HB := n0_; clear n0_; (try clear hb); (try clear hb2); (try clear hk); (try clear hi)) | ((with_reducible refine gate_callee (f := 18) rfl ?_); refine goesL_ (some 13) rfl rfl Try.func18 (by kernel_rfl) rfl #[.slice A1 l1.length c1, .int .i64 0] rfl (by (try simp only [List.map_toArray, List.map_cons, List.map_nil]); first | done | rfl | (simp only [List.length_drop, List.length_take]; rfl)) ?_; (with_reducible refine (journal_Redo.calls _ _ l1 0 t189 t190 _ ?side1 ?side2 A5.out).mono ?_); (case side1 => repeat (first | exact (Kd.C_below HR1.out HB.out) | (with_reducible refine Kd.C_alloc ?_ _) | (with_reducible refine Kd.C_drewN ?_ _) | (with_reducible refine Kd.C_drew ?_))); (case side2 => exact HC1.out); rintro e w13 ⟨v191, rfl, ho0, hb⟩; refine ⟨_, rfl, ?_⟩; have n0_ := Aside0.mk (Kd.R_lower ho0 (below_size (by repeat (first | (with_reducible first | exact HB.out | apply below_alloc | apply pw_below_drewN | apply below_drew1) | exact HB.out)))); have n1_ := Aside0.mk (below_step (by repeat (first | (with_reducible first | exact HB.out | apply below_alloc | apply pw_below_drewN | apply below_drew1) | exact HB.out)) hb); clear HB; have HO192 := n0_; have HB := n1_; clear n0_ n1_; (try clear hb); (try clear hb2); (try clear hk); (try clear hi); (try clear ho0)))
      go_ret2
      exact ⟨_, by first | rfl | (simp [errW_none, errW_some] <;> rfl) | (simp [*, errW_none, errW_some] <;> rfl), by first | exact Kd.R_nil _ _ _ _ _ | exact Kd.N_nil _ _ _ _ _ | exact Kd.V_nil _ _ _ _ _ | exact Kd.Q_nil _ _ _ _ _ | exact Kd.S_nil _ _ _ _ _, by repeat (first | (with_reducible first | exact HB.out | apply below_alloc | apply pw_below_drewN | apply below_drew1) | exact HB.out)⟩
  · replace c4 := Bool.eq_false_iff.mpr c4
    subst c4
    have H1 : (some (([] : List (S41)), 1)) = some (r1, r2) := by rw [if_neg (show ¬ (false = true) by decide)] at H; exact H
    clear H
    have H := H1
    clear H1
    simp only [Option.some.injEq, Prod.mk.injEq] at H
    obtain ⟨rfl, rfl⟩ := H
    go_enter Try.func14, Try.ntmps14
    go_wp2_with (first | ((with_reducible refine gate_callee (f := 36) rfl ?_); refine goesL_ (some 9) rfl rfl Try.func36 (by kernel_rfl) rfl #[.slice A0 l0.length c0] rfl (by (try simp only [List.map_toArray, List.map_cons, List.map_nil]); first | done | rfl | (simp only [List.length_drop, List.length_take]; rfl)) ?_; (with_reducible refine (journal_ordered.calls _ _ l0 false _ ?side1 ?side2 A3.out).mono ?_); (case side1 => repeat (first | exact HR0.out | (with_reducible refine Kd.C_alloc ?_ _) | (with_reducible refine Kd.C_drewN ?_ _) | (with_reducible refine Kd.C_drew ?_))); (case side2 => exact HC0.out); rintro e w14 ⟨rfl, hb⟩; refine ⟨_, rfl, ?_⟩; have n0_ := Aside0.mk (below_step (by repeat (first | (with_reducible first | exact HB.out | apply below_alloc | apply pw_below_drewN | apply below_drew1) | exact HB.out)) hb); clear HB; have HB := n0_; clear n0_; (try clear hb); (try clear hb2); (try clear hk); (try clear hi)))
    go_ret2
    exact ⟨_, by first | rfl | (simp [errW_none, errW_some] <;> rfl) | (simp [*, errW_none, errW_some] <;> rfl), by first | exact Kd.R_nil _ _ _ _ _ | exact Kd.N_nil _ _ _ _ _ | exact Kd.V_nil _ _ _ _ _ | exact Kd.Q_nil _ _ _ _ _ | exact Kd.S_nil _ _ _ _ _, by repeat (first | (with_reducible first | exact HB.out | apply below_alloc | apply pw_below_drewN | apply below_drew1) | exact HB.out)⟩

/-! ### ringworklaw25_awake: function 12 -/
def ringworklaw25_awake.f  : Option (Bool) := (journal_State.f ([] : List (S41)) (([(⟨1, 1, (⟨#[]⟩ : ByteArray), false, (⟨#[]⟩ : ByteArray)⟩ : S39), (⟨2, 1, (⟨#[120]⟩ : ByteArray), false, (⟨#[]⟩ : ByteArray)⟩ : S39), (⟨3, 1, (⟨#[120]⟩ : ByteArray), true, (⟨#[97]⟩ : ByteArray)⟩ : S39), (⟨5, 1, (⟨#[]⟩ : ByteArray), false, (⟨#[]⟩ : ByteArray)⟩ : S39)] : List (S39)))).bind fun bt200 => (if bt200.2 = 0 then (if (bt200.1.length : Int) = 1 then (if 0 < (bt200.1.length : Int) then (if ((rd_T41 bt200.1 0).f0).toList = ([120] : List UInt8) then (some (((rd_T41 bt200.1 0).f2).toList == ([97] : List UInt8))) else (some false)) else (none)) else (some false)) else (some false))
set_option maxHeartbeats 8000000 in
set_option maxRecDepth 100000 in
theorem ringworklaw25_awake.calls  (r : Bool) (w : World) (h : ringworklaw25_awake.f  = some r) :
    Calls Try.prog 12 #[] w fun e w' => e = .returned (.bool r) ∧ Below w.heap.size w w' := by
  have hu39 := Try.underlying39
  have HB := Aside0.mk (Below.refl w.heap.size w)
  have H : ((journal_State.f ([] : List (S41)) (([(⟨1, 1, (⟨#[]⟩ : ByteArray), false, (⟨#[]⟩ : ByteArray)⟩ : S39), (⟨2, 1, (⟨#[120]⟩ : ByteArray), false, (⟨#[]⟩ : ByteArray)⟩ : S39), (⟨3, 1, (⟨#[120]⟩ : ByteArray), true, (⟨#[97]⟩ : ByteArray)⟩ : S39), (⟨5, 1, (⟨#[]⟩ : ByteArray), false, (⟨#[]⟩ : ByteArray)⟩ : S39)] : List (S39)))).bind fun bt200 => (if bt200.2 = 0 then (if (bt200.1.length : Int) = 1 then (if 0 < (bt200.1.length : Int) then (if ((rd_T41 bt200.1 0).f0).toList = ([120] : List UInt8) then (some (((rd_T41 bt200.1 0).f2).toList == ([97] : List UInt8))) else (some false)) else (none)) else (some false)) else (some false))) = some r := h
  clear h
  obtain ⟨y197, hy197⟩ : ∃ y_ : List (S39), y_ = (([(⟨1, 1, (⟨#[]⟩ : ByteArray), false, (⟨#[]⟩ : ByteArray)⟩ : S39), (⟨2, 1, (⟨#[120]⟩ : ByteArray), false, (⟨#[]⟩ : ByteArray)⟩ : S39), (⟨3, 1, (⟨#[120]⟩ : ByteArray), true, (⟨#[97]⟩ : ByteArray)⟩ : S39), (⟨5, 1, (⟨#[]⟩ : ByteArray), false, (⟨#[]⟩ : ByteArray)⟩ : S39)] : List (S39))) := ⟨_, rfl⟩
  replace H : ((journal_State.f ([] : List (S41)) y197).bind fun bt200 => (if bt200.2 = 0 then (if (bt200.1.length : Int) = 1 then (if 0 < (bt200.1.length : Int) then (if ((rd_T41 bt200.1 0).f0).toList = ([120] : List UInt8) then (some (((rd_T41 bt200.1 0).f2).toList == ([97] : List UInt8))) else (some false)) else (none)) else (some false)) else (some false))) = some r := by first | (rw [hy197]; with_reducible exact H) | (have H2_ := (Option.bind_some _ _).symm.trans H; rw [hy197]; with_reducible exact H2_) | (have H2_ := (Option.bind_some _ _).symm.trans H; with_reducible exact H2_) | with_reducible exact H | (rw [hy197]; exact H) | exact H
  have Ny197 := Aside0.mk hy197
  clear hy197
  replace H := Option.bind_eq_some_iff.mp H
  obtain ⟨⟨t200, t201⟩, A10, H⟩ := H
  replace H : (if t201 = 0 then (if (t200.length : Int) = 1 then (if 0 < (t200.length : Int) then (if ((rd_T41 t200 0).f0).toList = ([120] : List UInt8) then (some (((rd_T41 t200 0).f2).toList == ([97] : List UInt8))) else (some false)) else (none)) else (some false)) else (some false)) = some r := H
  have A1 := Aside0.mk A10
  clear A10
  by_cases c2 : t201 = 0
  · rw [if_pos c2] at H
    have c2b0 : (t201 == 0) = true := beq_iff_eq.mpr c2
    have c2b1 : (t201 != 0) = false := bne_eq_false_iff_eq.mpr c2
    clear c2
    by_cases c3 : (t200.length : Int) = 1
    · rw [if_pos c3] at H
      have c3b0 : ((t200.length : Int) == 1) = true := beq_iff_eq.mpr c3
      have c3b1 : ((t200.length : Int) != 1) = false := bne_eq_false_iff_eq.mpr c3
      clear c3
      by_cases c4 : 0 < (t200.length : Int)
      · rw [if_pos c4] at H
        have c4b0 : decide (0 < (t200.length : Int)) = true := decide_eq_true c4
        have c4b1 : decide (0 < t200.length) = true := decide_eq_true (by omega)
        clear c4
        by_cases c5 : ((rd_T41 t200 0).f0).toList = ([120] : List UInt8)
        · rw [if_pos c5] at H
          have c5b0 : (((rd_T41 t200 0).f0).toList == ([120] : List UInt8)) = true := beq_iff_eq.mpr c5
          have c5b1 : (((rd_T41 t200 0).f0).toList != ([120] : List UInt8)) = false := bne_eq_false_iff_eq.mpr c5
          clear c5
          obtain rfl := Option.some.inj H
          go_enter Try.func12, Try.ntmps12
          go_wp2_with (first | ((with_reducible refine gate_dst (N := 8) rfl ?_); (try (refine gate_guard (by rfl) ?_; dsimp only)); refine Kd.R_lit k39 _ 39 ?hg (N := 8) ?hd (xs := ([(⟨1, 1, (⟨#[]⟩ : ByteArray), false, (⟨#[]⟩ : ByteArray)⟩ : S39), (⟨2, 1, (⟨#[120]⟩ : ByteArray), false, (⟨#[]⟩ : ByteArray)⟩ : S39), (⟨3, 1, (⟨#[120]⟩ : ByteArray), true, (⟨#[97]⟩ : ByteArray)⟩ : S39), (⟨5, 1, (⟨#[]⟩ : ByteArray), false, (⟨#[]⟩ : ByteArray)⟩ : S39)] : List (S39))) (inner := [.int .i64 1, .int .i64 1, .string (⟨#[]⟩ : ByteArray), .bool false, .string (⟨#[]⟩ : ByteArray), .int .i64 2, .int .i64 1, .string (⟨#[120]⟩ : ByteArray), .bool false, .string (⟨#[]⟩ : ByteArray), .int .i64 3, .int .i64 1, .string (⟨#[120]⟩ : ByteArray), .bool true, .string (⟨#[97]⟩ : ByteArray), .int .i64 5, .int .i64 1, .string (⟨#[]⟩ : ByteArray), .bool false, .string (⟨#[]⟩ : ByteArray)]) (ok := fun _ => True) (okp := fun _ => True) ?hr ?hp (fun _ hk => hk) trivial (Below.refl _ _) (Nat.le_refl _) (by simp) ?_; (case hd => rfl); (case hg => rfl); (case hr => first | (go_simp; done) | (go_simp; rfl)); (case hp => exact (Reps.c5 (show Kd.M k39 _ _ _ (⟨1, 1, (⟨#[]⟩ : ByteArray), false, (⟨#[]⟩ : ByteArray)⟩ : S39) [.int .i64 1, .int .i64 1, .string (⟨#[]⟩ : ByteArray), .bool false, .string (⟨#[]⟩ : ByteArray)] from (k39_mkM _ _ _ (⟨1, 1, (⟨#[]⟩ : ByteArray), false, (⟨#[]⟩ : ByteArray)⟩ : S39) )) (Reps.c5 (show Kd.M k39 _ _ _ (⟨2, 1, (⟨#[120]⟩ : ByteArray), false, (⟨#[]⟩ : ByteArray)⟩ : S39) [.int .i64 2, .int .i64 1, .string (⟨#[120]⟩ : ByteArray), .bool false, .string (⟨#[]⟩ : ByteArray)] from (k39_mkM _ _ _ (⟨2, 1, (⟨#[120]⟩ : ByteArray), false, (⟨#[]⟩ : ByteArray)⟩ : S39) )) (Reps.c5 (show Kd.M k39 _ _ _ (⟨3, 1, (⟨#[120]⟩ : ByteArray), true, (⟨#[97]⟩ : ByteArray)⟩ : S39) [.int .i64 3, .int .i64 1, .string (⟨#[120]⟩ : ByteArray), .bool true, .string (⟨#[97]⟩ : ByteArray)] from (k39_mkM _ _ _ (⟨3, 1, (⟨#[120]⟩ : ByteArray), true, (⟨#[97]⟩ : ByteArray)⟩ : S39) )) (Reps.c5 (show Kd.M k39 _ _ _ (⟨5, 1, (⟨#[]⟩ : ByteArray), false, (⟨#[]⟩ : ByteArray)⟩ : S39) [.int .i64 5, .int .i64 1, .string (⟨#[]⟩ : ByteArray), .bool false, .string (⟨#[]⟩ : ByteArray)] from (k39_mkM _ _ _ (⟨5, 1, (⟨#[]⟩ : ByteArray), false, (⟨#[]⟩ : ByteArray)⟩ : S39) )) (Reps.none _ _)))))); intro v198 w6 ho7 hb hg_ hnew_; clear hg_ hnew_; (first | rw [← Ny197.out] at ho7 | (simp only [Int.reduceToNat] at ho7; rw [← Ny197.out] at ho7)); have n0_ := Aside0.mk (Kd.R_lower ho7 (below_size (by repeat (first | (with_reducible first | exact HB.out | apply below_alloc | apply pw_below_drewN | apply below_drew1) | exact HB.out)))); have n1_ := Aside0.mk (below_step (by repeat (first | (with_reducible first | exact HB.out | apply below_alloc | apply pw_below_drewN | apply below_drew1) | exact HB.out)) hb); clear HB; have HO199 := n0_; have HB := n1_; clear n0_ n1_; clear hb ho7; obtain ⟨Ao8, co8, eo8⟩ := Kd.R_slice HO199.out; subst eo8) | ((with_reducible refine gate_callee (f := 14) rfl ?_); refine goesL_ (some 9) rfl rfl Try.func14 (by kernel_rfl) rfl #[.slice none 0 0, .slice Ao8 y197.length co8] rfl (by (try simp only [List.map_toArray, List.map_cons, List.map_nil]); first | done | rfl | (simp only [List.length_drop, List.length_take]; rfl)) ?_; (refine (journal_State.calls _ _ ([] : List (S41)) _ _ y197 t200 t201 _ ?side1 ?side2 ?side3 ?side4 A1.out).mono ?_); (case side1 => exact Kd.C_nil _ _); (case side2 => exact Nat.le_refl _); (case side3 => repeat (first | exact (Kd.R_reads' HO199.out).2.2 | (with_reducible refine Kd.C_alloc ?_ _) | (with_reducible refine Kd.C_drewN ?_ _) | (with_reducible refine Kd.C_drew ?_))); (case side4 => exact (Kd.R_reads' HO199.out).2.1); rintro e w9 ⟨v202, rfl, ho0, hb⟩; refine ⟨_, rfl, ?_⟩; have n0_ := Aside0.mk (Kd.R_below (by (with_reducible repeat (first | apply Kd.R_alloc | apply Kd.R_drewN | apply Kd.R_drew)); exact HO199.out) hb); have n1_ := Aside0.mk (Kd.R_lower ho0 (below_size (by repeat (first | (with_reducible first | exact HB.out | apply below_alloc | apply pw_below_drewN | apply below_drew1) | exact HB.out)))); have n2_ := Aside0.mk (below_step (by repeat (first | (with_reducible first | exact HB.out | apply below_alloc | apply pw_below_drewN | apply below_drew1) | exact HB.out)) hb); clear HO199; clear HB; have HO199 := n0_; have HO203 := n1_; have HB := n2_; clear n0_ n1_ n2_; (try clear hb); (try clear hb2); (try clear hk); (try clear hi); (try clear ho0); obtain ⟨Ao10, co10, eo10⟩ := Kd.R_slice HO203.out; subst eo10; have p204 : 0 ≤ (0 : Int) := (by omega); have q204 : 0 < (t200.length : Int) := of_decide_eq_true (by first | (with_reducible assumption) | assumption); obtain ⟨ad204, e204, hx204_0, hx204_1, hx204_2⟩ := at_T41 (Kd.R_reads' HO203.out).2.2 0 p204 q204; cases e204; have qi204 : (0 < t200.length) = True := eq_true (by omega); (try rw [show ((0 : Int)).toNat = 0 from rfl] at hx204_0); (try rw [show 0 * 3 = 0 from rfl] at hx204_0); (try rw [Addr.add_zero'] at hx204_0); (try rw [show ((0 : Int)).toNat = 0 from rfl] at hx204_1); (try rw [show 0 * 3 = 0 from rfl] at hx204_1); (try rw [Addr.add_zero'] at hx204_1); (try rw [show ((0 : Int)).toNat = 0 from rfl] at hx204_2); (try rw [show 0 * 3 = 0 from rfl] at hx204_2); (try rw [Addr.add_zero'] at hx204_2); replace p204 := eq_true p204; replace q204 := eq_true q204; have p205 : 0 ≤ (0 : Int) := (by omega); have q205 : 0 < (t200.length : Int) := of_decide_eq_true (by first | (with_reducible assumption) | assumption); obtain ⟨ad205, e205, hx205_0, hx205_1, hx205_2⟩ := at_T41 (Kd.R_reads' HO203.out).2.2 0 p205 q205; obtain rfl : ad204 = ad205 := (by injection e205); have qi205 : (0 < t200.length) = True := eq_true (by omega); (try rw [show ((0 : Int)).toNat = 0 from rfl] at hx205_0); (try rw [show 0 * 3 = 0 from rfl] at hx205_0); (try rw [Addr.add_zero'] at hx205_0); (try rw [show ((0 : Int)).toNat = 0 from rfl] at hx205_1); (try rw [show 0 * 3 = 0 from rfl] at hx205_1); (try rw [Addr.add_zero'] at hx205_1); (try rw [show ((0 : Int)).toNat = 0 from rfl] at hx205_2); (try rw [show 0 * 3 = 0 from rfl] at hx205_2); (try rw [Addr.add_zero'] at hx205_2); replace p205 := eq_true p205; replace q205 := eq_true q205))
          go_ret
          exact ⟨by first | rfl | (simp [errW_none, errW_some] <;> rfl) | (simp [*, errW_none, errW_some] <;> rfl), by repeat (first | (with_reducible first | exact HB.out | apply below_alloc | apply pw_below_drewN | apply below_drew1) | exact HB.out)⟩
        · rw [if_neg c5] at H
          have c5b0 : (((rd_T41 t200 0).f0).toList == ([120] : List UInt8)) = false := beq_eq_false_iff_ne.mpr c5
          have c5b1 : (((rd_T41 t200 0).f0).toList != ([120] : List UInt8)) = true := bne_iff_ne.mpr c5
          obtain rfl := Option.some.inj H
          go_enter Try.func12, Try.ntmps12
          go_wp2_with (first | ((with_reducible refine gate_dst (N := 8) rfl ?_); (try (refine gate_guard (by rfl) ?_; dsimp only)); refine Kd.R_lit k39 _ 39 ?hg (N := 8) ?hd (xs := ([(⟨1, 1, (⟨#[]⟩ : ByteArray), false, (⟨#[]⟩ : ByteArray)⟩ : S39), (⟨2, 1, (⟨#[120]⟩ : ByteArray), false, (⟨#[]⟩ : ByteArray)⟩ : S39), (⟨3, 1, (⟨#[120]⟩ : ByteArray), true, (⟨#[97]⟩ : ByteArray)⟩ : S39), (⟨5, 1, (⟨#[]⟩ : ByteArray), false, (⟨#[]⟩ : ByteArray)⟩ : S39)] : List (S39))) (inner := [.int .i64 1, .int .i64 1, .string (⟨#[]⟩ : ByteArray), .bool false, .string (⟨#[]⟩ : ByteArray), .int .i64 2, .int .i64 1, .string (⟨#[120]⟩ : ByteArray), .bool false, .string (⟨#[]⟩ : ByteArray), .int .i64 3, .int .i64 1, .string (⟨#[120]⟩ : ByteArray), .bool true, .string (⟨#[97]⟩ : ByteArray), .int .i64 5, .int .i64 1, .string (⟨#[]⟩ : ByteArray), .bool false, .string (⟨#[]⟩ : ByteArray)]) (ok := fun _ => True) (okp := fun _ => True) ?hr ?hp (fun _ hk => hk) trivial (Below.refl _ _) (Nat.le_refl _) (by simp) ?_; (case hd => rfl); (case hg => rfl); (case hr => first | (go_simp; done) | (go_simp; rfl)); (case hp => exact (Reps.c5 (show Kd.M k39 _ _ _ (⟨1, 1, (⟨#[]⟩ : ByteArray), false, (⟨#[]⟩ : ByteArray)⟩ : S39) [.int .i64 1, .int .i64 1, .string (⟨#[]⟩ : ByteArray), .bool false, .string (⟨#[]⟩ : ByteArray)] from (k39_mkM _ _ _ (⟨1, 1, (⟨#[]⟩ : ByteArray), false, (⟨#[]⟩ : ByteArray)⟩ : S39) )) (Reps.c5 (show Kd.M k39 _ _ _ (⟨2, 1, (⟨#[120]⟩ : ByteArray), false, (⟨#[]⟩ : ByteArray)⟩ : S39) [.int .i64 2, .int .i64 1, .string (⟨#[120]⟩ : ByteArray), .bool false, .string (⟨#[]⟩ : ByteArray)] from (k39_mkM _ _ _ (⟨2, 1, (⟨#[120]⟩ : ByteArray), false, (⟨#[]⟩ : ByteArray)⟩ : S39) )) (Reps.c5 (show Kd.M k39 _ _ _ (⟨3, 1, (⟨#[120]⟩ : ByteArray), true, (⟨#[97]⟩ : ByteArray)⟩ : S39) [.int .i64 3, .int .i64 1, .string (⟨#[120]⟩ : ByteArray), .bool true, .string (⟨#[97]⟩ : ByteArray)] from (k39_mkM _ _ _ (⟨3, 1, (⟨#[120]⟩ : ByteArray), true, (⟨#[97]⟩ : ByteArray)⟩ : S39) )) (Reps.c5 (show Kd.M k39 _ _ _ (⟨5, 1, (⟨#[]⟩ : ByteArray), false, (⟨#[]⟩ : ByteArray)⟩ : S39) [.int .i64 5, .int .i64 1, .string (⟨#[]⟩ : ByteArray), .bool false, .string (⟨#[]⟩ : ByteArray)] from (k39_mkM _ _ _ (⟨5, 1, (⟨#[]⟩ : ByteArray), false, (⟨#[]⟩ : ByteArray)⟩ : S39) )) (Reps.none _ _)))))); intro v198 w11 ho12 hb hg_ hnew_; clear hg_ hnew_; (first | rw [← Ny197.out] at ho12 | (simp only [Int.reduceToNat] at ho12; rw [← Ny197.out] at ho12)); have n0_ := Aside0.mk (Kd.R_lower ho12 (below_size (by repeat (first | (with_reducible first | exact HB.out | apply below_alloc | apply pw_below_drewN | apply below_drew1) | exact HB.out)))); have n1_ := Aside0.mk (below_step (by repeat (first | (with_reducible first | exact HB.out | apply below_alloc | apply pw_below_drewN | apply below_drew1) | exact HB.out)) hb); clear HB; have HO199 := n0_; have HB := n1_; clear n0_ n1_; clear hb ho12; obtain ⟨Ao13, co13, eo13⟩ := Kd.R_slice HO199.out; subst eo13) | ((with_reducible refine gate_callee (f := 14) rfl ?_); refine goesL_ (some 9) rfl rfl Try.func14 (by kernel_rfl) rfl #[.slice none 0 0, .slice Ao13 y197.length co13] rfl (by (try simp only [List.map_toArray, List.map_cons, List.map_nil]); first | done | rfl | (simp only [List.length_drop, List.length_take]; rfl)) ?_; (refine (journal_State.calls _ _ ([] : List (S41)) _ _ y197 t200 t201 _ ?side1 ?side2 ?side3 ?side4 A1.out).mono ?_); (case side1 => exact Kd.C_nil _ _); (case side2 => exact Nat.le_refl _); (case side3 => repeat (first | exact (Kd.R_reads' HO199.out).2.2 | (with_reducible refine Kd.C_alloc ?_ _) | (with_reducible refine Kd.C_drewN ?_ _) | (with_reducible refine Kd.C_drew ?_))); (case side4 => exact (Kd.R_reads' HO199.out).2.1); rintro e w14 ⟨v202, rfl, ho0, hb⟩; refine ⟨_, rfl, ?_⟩; have n0_ := Aside0.mk (Kd.R_below (by (with_reducible repeat (first | apply Kd.R_alloc | apply Kd.R_drewN | apply Kd.R_drew)); exact HO199.out) hb); have n1_ := Aside0.mk (Kd.R_lower ho0 (below_size (by repeat (first | (with_reducible first | exact HB.out | apply below_alloc | apply pw_below_drewN | apply below_drew1) | exact HB.out)))); have n2_ := Aside0.mk (below_step (by repeat (first | (with_reducible first | exact HB.out | apply below_alloc | apply pw_below_drewN | apply below_drew1) | exact HB.out)) hb); clear HO199; clear HB; have HO199 := n0_; have HO203 := n1_; have HB := n2_; clear n0_ n1_ n2_; (try clear hb); (try clear hb2); (try clear hk); (try clear hi); (try clear ho0); obtain ⟨Ao15, co15, eo15⟩ := Kd.R_slice HO203.out; subst eo15; have p204 : 0 ≤ (0 : Int) := (by omega); have q204 : 0 < (t200.length : Int) := of_decide_eq_true (by first | (with_reducible assumption) | assumption); obtain ⟨ad204, e204, hx204_0, hx204_1, hx204_2⟩ := at_T41 (Kd.R_reads' HO203.out).2.2 0 p204 q204; cases e204; have qi204 : (0 < t200.length) = True := eq_true (by omega); (try rw [show ((0 : Int)).toNat = 0 from rfl] at hx204_0); (try rw [show 0 * 3 = 0 from rfl] at hx204_0); (try rw [Addr.add_zero'] at hx204_0); (try rw [show ((0 : Int)).toNat = 0 from rfl] at hx204_1); (try rw [show 0 * 3 = 0 from rfl] at hx204_1); (try rw [Addr.add_zero'] at hx204_1); (try rw [show ((0 : Int)).toNat = 0 from rfl] at hx204_2); (try rw [show 0 * 3 = 0 from rfl] at hx204_2); (try rw [Addr.add_zero'] at hx204_2); replace p204 := eq_true p204; replace q204 := eq_true q204))
          go_ret
          exact ⟨by first | rfl | (simp [errW_none, errW_some] <;> rfl) | (simp [*, errW_none, errW_some] <;> rfl), by repeat (first | (with_reducible first | exact HB.out | apply below_alloc | apply pw_below_drewN | apply below_drew1) | exact HB.out)⟩
      · rw [if_neg c4] at H
        exact absurd H (by simp)
    · rw [if_neg c3] at H
      have c3b0 : ((t200.length : Int) == 1) = false := beq_eq_false_iff_ne.mpr c3
      have c3b1 : ((t200.length : Int) != 1) = true := bne_iff_ne.mpr c3
      obtain rfl := Option.some.inj H
      go_enter Try.func12, Try.ntmps12
      go_wp2_with (first | ((with_reducible refine gate_dst (N := 8) rfl ?_); (try (refine gate_guard (by rfl) ?_; dsimp only)); refine Kd.R_lit k39 _ 39 ?hg (N := 8) ?hd (xs := ([(⟨1, 1, (⟨#[]⟩ : ByteArray), false, (⟨#[]⟩ : ByteArray)⟩ : S39), (⟨2, 1, (⟨#[120]⟩ : ByteArray), false, (⟨#[]⟩ : ByteArray)⟩ : S39), (⟨3, 1, (⟨#[120]⟩ : ByteArray), true, (⟨#[97]⟩ : ByteArray)⟩ : S39), (⟨5, 1, (⟨#[]⟩ : ByteArray), false, (⟨#[]⟩ : ByteArray)⟩ : S39)] : List (S39))) (inner := [.int .i64 1, .int .i64 1, .string (⟨#[]⟩ : ByteArray), .bool false, .string (⟨#[]⟩ : ByteArray), .int .i64 2, .int .i64 1, .string (⟨#[120]⟩ : ByteArray), .bool false, .string (⟨#[]⟩ : ByteArray), .int .i64 3, .int .i64 1, .string (⟨#[120]⟩ : ByteArray), .bool true, .string (⟨#[97]⟩ : ByteArray), .int .i64 5, .int .i64 1, .string (⟨#[]⟩ : ByteArray), .bool false, .string (⟨#[]⟩ : ByteArray)]) (ok := fun _ => True) (okp := fun _ => True) ?hr ?hp (fun _ hk => hk) trivial (Below.refl _ _) (Nat.le_refl _) (by simp) ?_; (case hd => rfl); (case hg => rfl); (case hr => first | (go_simp; done) | (go_simp; rfl)); (case hp => exact (Reps.c5 (show Kd.M k39 _ _ _ (⟨1, 1, (⟨#[]⟩ : ByteArray), false, (⟨#[]⟩ : ByteArray)⟩ : S39) [.int .i64 1, .int .i64 1, .string (⟨#[]⟩ : ByteArray), .bool false, .string (⟨#[]⟩ : ByteArray)] from (k39_mkM _ _ _ (⟨1, 1, (⟨#[]⟩ : ByteArray), false, (⟨#[]⟩ : ByteArray)⟩ : S39) )) (Reps.c5 (show Kd.M k39 _ _ _ (⟨2, 1, (⟨#[120]⟩ : ByteArray), false, (⟨#[]⟩ : ByteArray)⟩ : S39) [.int .i64 2, .int .i64 1, .string (⟨#[120]⟩ : ByteArray), .bool false, .string (⟨#[]⟩ : ByteArray)] from (k39_mkM _ _ _ (⟨2, 1, (⟨#[120]⟩ : ByteArray), false, (⟨#[]⟩ : ByteArray)⟩ : S39) )) (Reps.c5 (show Kd.M k39 _ _ _ (⟨3, 1, (⟨#[120]⟩ : ByteArray), true, (⟨#[97]⟩ : ByteArray)⟩ : S39) [.int .i64 3, .int .i64 1, .string (⟨#[120]⟩ : ByteArray), .bool true, .string (⟨#[97]⟩ : ByteArray)] from (k39_mkM _ _ _ (⟨3, 1, (⟨#[120]⟩ : ByteArray), true, (⟨#[97]⟩ : ByteArray)⟩ : S39) )) (Reps.c5 (show Kd.M k39 _ _ _ (⟨5, 1, (⟨#[]⟩ : ByteArray), false, (⟨#[]⟩ : ByteArray)⟩ : S39) [.int .i64 5, .int .i64 1, .string (⟨#[]⟩ : ByteArray), .bool false, .string (⟨#[]⟩ : ByteArray)] from (k39_mkM _ _ _ (⟨5, 1, (⟨#[]⟩ : ByteArray), false, (⟨#[]⟩ : ByteArray)⟩ : S39) )) (Reps.none _ _)))))); intro v198 w16 ho17 hb hg_ hnew_; clear hg_ hnew_; (first | rw [← Ny197.out] at ho17 | (simp only [Int.reduceToNat] at ho17; rw [← Ny197.out] at ho17)); have n0_ := Aside0.mk (Kd.R_lower ho17 (below_size (by repeat (first | (with_reducible first | exact HB.out | apply below_alloc | apply pw_below_drewN | apply below_drew1) | exact HB.out)))); have n1_ := Aside0.mk (below_step (by repeat (first | (with_reducible first | exact HB.out | apply below_alloc | apply pw_below_drewN | apply below_drew1) | exact HB.out)) hb); clear HB; have HO199 := n0_; have HB := n1_; clear n0_ n1_; clear hb ho17; obtain ⟨Ao18, co18, eo18⟩ := Kd.R_slice HO199.out; subst eo18) | ((with_reducible refine gate_callee (f := 14) rfl ?_); refine goesL_ (some 9) rfl rfl Try.func14 (by kernel_rfl) rfl #[.slice none 0 0, .slice Ao18 y197.length co18] rfl (by (try simp only [List.map_toArray, List.map_cons, List.map_nil]); first | done | rfl | (simp only [List.length_drop, List.length_take]; rfl)) ?_; (refine (journal_State.calls _ _ ([] : List (S41)) _ _ y197 t200 t201 _ ?side1 ?side2 ?side3 ?side4 A1.out).mono ?_); (case side1 => exact Kd.C_nil _ _); (case side2 => exact Nat.le_refl _); (case side3 => repeat (first | exact (Kd.R_reads' HO199.out).2.2 | (with_reducible refine Kd.C_alloc ?_ _) | (with_reducible refine Kd.C_drewN ?_ _) | (with_reducible refine Kd.C_drew ?_))); (case side4 => exact (Kd.R_reads' HO199.out).2.1); rintro e w19 ⟨v202, rfl, ho0, hb⟩; refine ⟨_, rfl, ?_⟩; have n0_ := Aside0.mk (Kd.R_below (by (with_reducible repeat (first | apply Kd.R_alloc | apply Kd.R_drewN | apply Kd.R_drew)); exact HO199.out) hb); have n1_ := Aside0.mk (Kd.R_lower ho0 (below_size (by repeat (first | (with_reducible first | exact HB.out | apply below_alloc | apply pw_below_drewN | apply below_drew1) | exact HB.out)))); have n2_ := Aside0.mk (below_step (by repeat (first | (with_reducible first | exact HB.out | apply below_alloc | apply pw_below_drewN | apply below_drew1) | exact HB.out)) hb); clear HO199; clear HB; have HO199 := n0_; have HO203 := n1_; have HB := n2_; clear n0_ n1_ n2_; (try clear hb); (try clear hb2); (try clear hk); (try clear hi); (try clear ho0); obtain ⟨Ao20, co20, eo20⟩ := Kd.R_slice HO203.out; subst eo20))
      go_ret
      exact ⟨by first | rfl | (simp [errW_none, errW_some] <;> rfl) | (simp [*, errW_none, errW_some] <;> rfl), by repeat (first | (with_reducible first | exact HB.out | apply below_alloc | apply pw_below_drewN | apply below_drew1) | exact HB.out)⟩
  · rw [if_neg c2] at H
    have c2b0 : (t201 == 0) = false := beq_eq_false_iff_ne.mpr c2
    have c2b1 : (t201 != 0) = true := bne_iff_ne.mpr c2
    obtain rfl := Option.some.inj H
    go_enter Try.func12, Try.ntmps12
    go_wp2_with (first | ((with_reducible refine gate_dst (N := 8) rfl ?_); (try (refine gate_guard (by rfl) ?_; dsimp only)); refine Kd.R_lit k39 _ 39 ?hg (N := 8) ?hd (xs := ([(⟨1, 1, (⟨#[]⟩ : ByteArray), false, (⟨#[]⟩ : ByteArray)⟩ : S39), (⟨2, 1, (⟨#[120]⟩ : ByteArray), false, (⟨#[]⟩ : ByteArray)⟩ : S39), (⟨3, 1, (⟨#[120]⟩ : ByteArray), true, (⟨#[97]⟩ : ByteArray)⟩ : S39), (⟨5, 1, (⟨#[]⟩ : ByteArray), false, (⟨#[]⟩ : ByteArray)⟩ : S39)] : List (S39))) (inner := [.int .i64 1, .int .i64 1, .string (⟨#[]⟩ : ByteArray), .bool false, .string (⟨#[]⟩ : ByteArray), .int .i64 2, .int .i64 1, .string (⟨#[120]⟩ : ByteArray), .bool false, .string (⟨#[]⟩ : ByteArray), .int .i64 3, .int .i64 1, .string (⟨#[120]⟩ : ByteArray), .bool true, .string (⟨#[97]⟩ : ByteArray), .int .i64 5, .int .i64 1, .string (⟨#[]⟩ : ByteArray), .bool false, .string (⟨#[]⟩ : ByteArray)]) (ok := fun _ => True) (okp := fun _ => True) ?hr ?hp (fun _ hk => hk) trivial (Below.refl _ _) (Nat.le_refl _) (by simp) ?_; (case hd => rfl); (case hg => rfl); (case hr => first | (go_simp; done) | (go_simp; rfl)); (case hp => exact (Reps.c5 (show Kd.M k39 _ _ _ (⟨1, 1, (⟨#[]⟩ : ByteArray), false, (⟨#[]⟩ : ByteArray)⟩ : S39) [.int .i64 1, .int .i64 1, .string (⟨#[]⟩ : ByteArray), .bool false, .string (⟨#[]⟩ : ByteArray)] from (k39_mkM _ _ _ (⟨1, 1, (⟨#[]⟩ : ByteArray), false, (⟨#[]⟩ : ByteArray)⟩ : S39) )) (Reps.c5 (show Kd.M k39 _ _ _ (⟨2, 1, (⟨#[120]⟩ : ByteArray), false, (⟨#[]⟩ : ByteArray)⟩ : S39) [.int .i64 2, .int .i64 1, .string (⟨#[120]⟩ : ByteArray), .bool false, .string (⟨#[]⟩ : ByteArray)] from (k39_mkM _ _ _ (⟨2, 1, (⟨#[120]⟩ : ByteArray), false, (⟨#[]⟩ : ByteArray)⟩ : S39) )) (Reps.c5 (show Kd.M k39 _ _ _ (⟨3, 1, (⟨#[120]⟩ : ByteArray), true, (⟨#[97]⟩ : ByteArray)⟩ : S39) [.int .i64 3, .int .i64 1, .string (⟨#[120]⟩ : ByteArray), .bool true, .string (⟨#[97]⟩ : ByteArray)] from (k39_mkM _ _ _ (⟨3, 1, (⟨#[120]⟩ : ByteArray), true, (⟨#[97]⟩ : ByteArray)⟩ : S39) )) (Reps.c5 (show Kd.M k39 _ _ _ (⟨5, 1, (⟨#[]⟩ : ByteArray), false, (⟨#[]⟩ : ByteArray)⟩ : S39) [.int .i64 5, .int .i64 1, .string (⟨#[]⟩ : ByteArray), .bool false, .string (⟨#[]⟩ : ByteArray)] from (k39_mkM _ _ _ (⟨5, 1, (⟨#[]⟩ : ByteArray), false, (⟨#[]⟩ : ByteArray)⟩ : S39) )) (Reps.none _ _)))))); intro v198 w21 ho22 hb hg_ hnew_; clear hg_ hnew_; (first | rw [← Ny197.out] at ho22 | (simp only [Int.reduceToNat] at ho22; rw [← Ny197.out] at ho22)); have n0_ := Aside0.mk (Kd.R_lower ho22 (below_size (by repeat (first | (with_reducible first | exact HB.out | apply below_alloc | apply pw_below_drewN | apply below_drew1) | exact HB.out)))); have n1_ := Aside0.mk (below_step (by repeat (first | (with_reducible first | exact HB.out | apply below_alloc | apply pw_below_drewN | apply below_drew1) | exact HB.out)) hb); clear HB; have HO199 := n0_; have HB := n1_; clear n0_ n1_; clear hb ho22; obtain ⟨Ao23, co23, eo23⟩ := Kd.R_slice HO199.out; subst eo23) | ((with_reducible refine gate_callee (f := 14) rfl ?_); refine goesL_ (some 9) rfl rfl Try.func14 (by kernel_rfl) rfl #[.slice none 0 0, .slice Ao23 y197.length co23] rfl (by (try simp only [List.map_toArray, List.map_cons, List.map_nil]); first | done | rfl | (simp only [List.length_drop, List.length_take]; rfl)) ?_; (refine (journal_State.calls _ _ ([] : List (S41)) _ _ y197 t200 t201 _ ?side1 ?side2 ?side3 ?side4 A1.out).mono ?_); (case side1 => exact Kd.C_nil _ _); (case side2 => exact Nat.le_refl _); (case side3 => repeat (first | exact (Kd.R_reads' HO199.out).2.2 | (with_reducible refine Kd.C_alloc ?_ _) | (with_reducible refine Kd.C_drewN ?_ _) | (with_reducible refine Kd.C_drew ?_))); (case side4 => exact (Kd.R_reads' HO199.out).2.1); rintro e w24 ⟨v202, rfl, ho0, hb⟩; refine ⟨_, rfl, ?_⟩; have n0_ := Aside0.mk (Kd.R_below (by (with_reducible repeat (first | apply Kd.R_alloc | apply Kd.R_drewN | apply Kd.R_drew)); exact HO199.out) hb); have n1_ := Aside0.mk (Kd.R_lower ho0 (below_size (by repeat (first | (with_reducible first | exact HB.out | apply below_alloc | apply pw_below_drewN | apply below_drew1) | exact HB.out)))); have n2_ := Aside0.mk (below_step (by repeat (first | (with_reducible first | exact HB.out | apply below_alloc | apply pw_below_drewN | apply below_drew1) | exact HB.out)) hb); clear HO199; clear HB; have HO199 := n0_; have HO203 := n1_; have HB := n2_; clear n0_ n1_ n2_; (try clear hb); (try clear hb2); (try clear hk); (try clear hi); (try clear ho0)))
    go_ret
    exact ⟨by first | rfl | (simp [errW_none, errW_some] <;> rfl) | (simp [*, errW_none, errW_some] <;> rfl), by repeat (first | (with_reducible first | exact HB.out | apply below_alloc | apply pw_below_drewN | apply below_drew1) | exact HB.out)⟩

/-! ### ringworklaw25_JournalCuts: function 3 -/
mutual
def ringworklaw25_JournalCuts.j0 : Nat → List (S41) → List (S39) → Int → Bool → Option (Bool)
  | 0, _, _, _, _ => none
  | k + 1, x0, x1, x2, x33 => if x33 = true then ((ringworklaw25_awake.f).bind fun t208 => (some t208)) else (if 0 ≤ x2 then (if x2 ≤ (x1.length : Int) then ((ringworkref25_Open.f k (x1.take (x2 : Int).toNat)).bind fun bt213 => (if bt213.2 = 0 then (ringworklaw25_JournalCuts.j1 k x0 x1 x2 (decide ((bt213.1.length : Int) > 0))) else (ringworklaw25_JournalCuts.j1 k x0 x1 x2 true))) else (none)) else (none))
def ringworklaw25_JournalCuts.j1 : Nat → List (S41) → List (S39) → Int → Bool → Option (Bool)
  | 0, _, _, _, _ => none
  | k + 1, x0, x1, x2, x48 => if x48 = true then ((ringworklaw25_awake.f).bind fun t217 => (some t217)) else ((ringworkref25_Open.f k x1).bind fun bt218 => (if bt218.2 = 0 then ((journal_State.f x0 x1).bind fun bt223 => (if 0 ≤ x2 then (if x2 ≤ (x1.length : Int) then ((journal_State.f x0 (x1.take (x2 : Int).toNat)).bind fun bt231 => (if bt231.2 = 0 then ((journal_State.f bt231.1 (x1.drop (x2 : Int).toNat)).bind fun bt239 => (if bt223.2 = bt239.2 then ((ringworkref25_SameImages.f k bt223.1 bt239.1).bind fun t243 => (if t243 = true then ((ringworklaw25_awake.f).bind fun t244 => (some t244)) else (some false))) else (some false))) else (if bt223.2 = 0 then (if bt231.2 = 4 then ((ringworklaw25_awake.f).bind fun t245 => (some t245)) else (some false)) else ((ringworklaw25_awake.f).bind fun t246 => (some t246))))) else (none)) else (none))) else ((ringworklaw25_awake.f).bind fun t222 => (some t222))))
end
def ringworklaw25_JournalCuts.f (k : Nat) (l0 : List (S41)) (l1 : List (S39)) (a2 : Int) : Option (Bool) := (ringworklaw25_Notes.f k l1).bind fun t206 => (if t206 = true then ((ringworklaw25_Images.f k l0).bind fun t207 => (if t207 = true then (if a2 < 0 then (ringworklaw25_JournalCuts.j0 k l0 l1 a2 true) else (ringworklaw25_JournalCuts.j0 k l0 l1 a2 (decide (a2 > (l1.length : Int))))) else (ringworklaw25_JournalCuts.j0 k l0 l1 a2 true))) else (ringworklaw25_JournalCuts.j0 k l0 l1 a2 true))
set_option maxHeartbeats 8000000 in
set_option maxRecDepth 100000 in
theorem ringworklaw25_JournalCuts.calls (k : Nat) (A0 : Option Addr) (c0 : Nat) (l0 : List (S41)) (A1 : Option Addr) (c1 : Nat) (l1 : List (S39)) (a2 : Int) (r : Bool) (w : World) (hr0 : Kd.C k41 w A0 l0.length l0) (hc0 : l0.length ≤ c0) (hr1 : Kd.C k39 w A1 l1.length l1) (hc1 : l1.length ≤ c1) (h : ringworklaw25_JournalCuts.f k l0 l1 a2 = some r) :
    Calls Try.prog 3 #[.slice A0 l0.length c0, .slice A1 l1.length c1, .int .i64 a2] w fun e w' => e = .returned (.bool r) ∧ Below w.heap.size w w' := by
  have HR0 := Aside0.mk hr0
  have HC0 := Aside0.mk hc0
  clear hr0 hc0
  have HR1 := Aside0.mk hr1
  have HC1 := Aside0.mk hc1
  clear hr1 hc1
  have HB := Aside0.mk (Below.refl w.heap.size w)
  have H : ((ringworklaw25_Notes.f k l1).bind fun t206 => (if t206 = true then ((ringworklaw25_Images.f k l0).bind fun t207 => (if t207 = true then (if a2 < 0 then (ringworklaw25_JournalCuts.j0 k l0 l1 a2 true) else (ringworklaw25_JournalCuts.j0 k l0 l1 a2 (decide (a2 > (l1.length : Int))))) else (ringworklaw25_JournalCuts.j0 k l0 l1 a2 true))) else (ringworklaw25_JournalCuts.j0 k l0 l1 a2 true))) = some r := h
  clear h
  have HC4 := Aside0.mk H
  clear H
  go_enter Try.func3, Try.ntmps3
  go_upto_region 1 with (fail)
  go_cut [33] (fun v33 wc => ∃ (kq : Nat) (x33_3 : Bool), v33 = .bool x33_3 ∧ Aside0 (ringworklaw25_JournalCuts.j0 kq l0 l1 a2 x33_3 = some r) ∧ Aside0 (kq ≤ k) ∧ Aside0 (Below w.heap.size w wc))
  case first =>
    have H := HC4.out
    clear HC4
    replace H := Option.bind_eq_some_iff.mp H
    obtain ⟨t206, A50, H⟩ := H
    replace H : (if t206 = true then ((ringworklaw25_Images.f k l0).bind fun t207 => (if t207 = true then (if a2 < 0 then (ringworklaw25_JournalCuts.j0 k l0 l1 a2 true) else (ringworklaw25_JournalCuts.j0 k l0 l1 a2 (decide (a2 > (l1.length : Int))))) else (ringworklaw25_JournalCuts.j0 k l0 l1 a2 true))) else (ringworklaw25_JournalCuts.j0 k l0 l1 a2 true)) = some r := H
    have A5 := Aside0.mk A50
    clear A50
    by_cases c6 : t206 = true
    · subst c6
      have H1 : ((ringworklaw25_Images.f k l0).bind fun t207 => (if t207 = true then (if a2 < 0 then (ringworklaw25_JournalCuts.j0 k l0 l1 a2 true) else (ringworklaw25_JournalCuts.j0 k l0 l1 a2 (decide (a2 > (l1.length : Int))))) else (ringworklaw25_JournalCuts.j0 k l0 l1 a2 true))) = some r := by rw [if_pos rfl] at H; exact H
      clear H
      have H := H1
      clear H1
      replace H := Option.bind_eq_some_iff.mp H
      obtain ⟨t207, A70, H⟩ := H
      replace H : (if t207 = true then (if a2 < 0 then (ringworklaw25_JournalCuts.j0 k l0 l1 a2 true) else (ringworklaw25_JournalCuts.j0 k l0 l1 a2 (decide (a2 > (l1.length : Int))))) else (ringworklaw25_JournalCuts.j0 k l0 l1 a2 true)) = some r := H
      have A7 := Aside0.mk A70
      clear A70
      by_cases c8 : t207 = true
      · subst c8
        have H1 : (if a2 < 0 then (ringworklaw25_JournalCuts.j0 k l0 l1 a2 true) else (ringworklaw25_JournalCuts.j0 k l0 l1 a2 (decide (a2 > (l1.length : Int))))) = some r := by rw [if_pos rfl] at H; exact H
        clear H
        have H := H1
        clear H1
        by_cases c9 : a2 < 0
        · rw [if_pos c9] at H
          have c9b0 : decide (a2 < 0) = true := decide_eq_true c9
          clear c9
          (first | rw [c9b0] | (simp only [i64_w, i32_w]; rw [c9b0]) | skip)
          have H' := Aside0.mk H
          clear H
          go_wp2_with (first | ((with_reducible refine gate_callee (f := 10) rfl ?_); refine goesL_ (some 17) rfl rfl Try.func10 (by kernel_rfl) rfl #[.slice A1 l1.length c1] rfl (by (try simp only [List.map_toArray, List.map_cons, List.map_nil]); first | done | rfl | (simp only [List.length_drop, List.length_take]; rfl)) ?_; (with_reducible refine (ringworklaw25_Notes.calls k _ _ l1 true _ ?side1 ?side2 A5.out).mono ?_); (case side1 => repeat (first | exact (Kd.C_below HR1.out HB.out) | (with_reducible refine Kd.C_alloc ?_ _) | (with_reducible refine Kd.C_drewN ?_ _) | (with_reducible refine Kd.C_drew ?_))); (case side2 => exact HC1.out); rintro e w' ⟨rfl, ⟨nd, rfl⟩⟩; refine ⟨_, rfl, ?_⟩) | (go_at_call 11; (with_reducible refine (ringworklaw25_Images.calls k _ _ l0 true _ ?side1 ?side2 A7.out).mono ?_); (case side1 => repeat (first | exact (Kd.C_below HR0.out (by repeat (first | (with_reducible first | exact HB.out | apply below_alloc | apply pw_below_drewN | apply below_drew1) | exact HB.out))) | (with_reducible refine Kd.C_alloc ?_ _) | (with_reducible refine Kd.C_drewN ?_ _) | (with_reducible refine Kd.C_drew ?_))); (case side2 => exact HC0.out); rintro e w' ⟨rfl, ⟨nd, rfl⟩⟩))
          go_meet
          case rel => exact ⟨_, (true), (by first | rfl | (simp; done) | (simp [*]; done)), H', ⟨by first | omega | exact Nat.le_refl _⟩, ⟨by repeat (first | (with_reducible first | exact HB.out | apply below_alloc | apply pw_below_drewN | apply below_drew1) | exact HB.out)⟩⟩
        · rw [if_neg c9] at H
          have c9b0 : decide (a2 < 0) = false := decide_eq_false c9
          clear c9
          (first | rw [c9b0] | (simp only [i64_w, i32_w]; rw [c9b0]) | skip)
          have H' := Aside0.mk H
          clear H
          go_wp2_with (first | ((with_reducible refine gate_callee (f := 10) rfl ?_); refine goesL_ (some 17) rfl rfl Try.func10 (by kernel_rfl) rfl #[.slice A1 l1.length c1] rfl (by (try simp only [List.map_toArray, List.map_cons, List.map_nil]); first | done | rfl | (simp only [List.length_drop, List.length_take]; rfl)) ?_; (with_reducible refine (ringworklaw25_Notes.calls k _ _ l1 true _ ?side1 ?side2 A5.out).mono ?_); (case side1 => repeat (first | exact (Kd.C_below HR1.out HB.out) | (with_reducible refine Kd.C_alloc ?_ _) | (with_reducible refine Kd.C_drewN ?_ _) | (with_reducible refine Kd.C_drew ?_))); (case side2 => exact HC1.out); rintro e w' ⟨rfl, ⟨nd, rfl⟩⟩; refine ⟨_, rfl, ?_⟩) | (go_at_call 11; (with_reducible refine (ringworklaw25_Images.calls k _ _ l0 true _ ?side1 ?side2 A7.out).mono ?_); (case side1 => repeat (first | exact (Kd.C_below HR0.out (by repeat (first | (with_reducible first | exact HB.out | apply below_alloc | apply pw_below_drewN | apply below_drew1) | exact HB.out))) | (with_reducible refine Kd.C_alloc ?_ _) | (with_reducible refine Kd.C_drewN ?_ _) | (with_reducible refine Kd.C_drew ?_))); (case side2 => exact HC0.out); rintro e w' ⟨rfl, ⟨nd, rfl⟩⟩))
          go_meet
          case rel => exact ⟨_, (decide (a2 > (l1.length : Int))), (by first | rfl | (simp; done) | (simp [*]; done)), H', ⟨by first | omega | exact Nat.le_refl _⟩, ⟨by repeat (first | (with_reducible first | exact HB.out | apply below_alloc | apply pw_below_drewN | apply below_drew1) | exact HB.out)⟩⟩
      · replace c8 := Bool.eq_false_iff.mpr c8
        subst c8
        have H1 : (ringworklaw25_JournalCuts.j0 k l0 l1 a2 true) = some r := by rw [if_neg (show ¬ (false = true) by decide)] at H; exact H
        clear H
        have H := H1
        clear H1
        have H' := Aside0.mk H
        clear H
        go_wp2_with (first | ((with_reducible refine gate_callee (f := 10) rfl ?_); refine goesL_ (some 17) rfl rfl Try.func10 (by kernel_rfl) rfl #[.slice A1 l1.length c1] rfl (by (try simp only [List.map_toArray, List.map_cons, List.map_nil]); first | done | rfl | (simp only [List.length_drop, List.length_take]; rfl)) ?_; (with_reducible refine (ringworklaw25_Notes.calls k _ _ l1 true _ ?side1 ?side2 A5.out).mono ?_); (case side1 => repeat (first | exact (Kd.C_below HR1.out HB.out) | (with_reducible refine Kd.C_alloc ?_ _) | (with_reducible refine Kd.C_drewN ?_ _) | (with_reducible refine Kd.C_drew ?_))); (case side2 => exact HC1.out); rintro e w' ⟨rfl, ⟨nd, rfl⟩⟩; refine ⟨_, rfl, ?_⟩) | (go_at_call 11; (with_reducible refine (ringworklaw25_Images.calls k _ _ l0 false _ ?side1 ?side2 A7.out).mono ?_); (case side1 => repeat (first | exact (Kd.C_below HR0.out (by repeat (first | (with_reducible first | exact HB.out | apply below_alloc | apply pw_below_drewN | apply below_drew1) | exact HB.out))) | (with_reducible refine Kd.C_alloc ?_ _) | (with_reducible refine Kd.C_drewN ?_ _) | (with_reducible refine Kd.C_drew ?_))); (case side2 => exact HC0.out); rintro e w' ⟨rfl, ⟨nd, rfl⟩⟩))
        go_meet
        case rel => exact ⟨_, (true), (by first | rfl | (simp; done) | (simp [*]; done)), H', ⟨by first | omega | exact Nat.le_refl _⟩, ⟨by repeat (first | (with_reducible first | exact HB.out | apply below_alloc | apply pw_below_drewN | apply below_drew1) | exact HB.out)⟩⟩
    · replace c6 := Bool.eq_false_iff.mpr c6
      subst c6
      have H1 : (ringworklaw25_JournalCuts.j0 k l0 l1 a2 true) = some r := by rw [if_neg (show ¬ (false = true) by decide)] at H; exact H
      clear H
      have H := H1
      clear H1
      have H' := Aside0.mk H
      clear H
      go_wp2_with (first | ((with_reducible refine gate_callee (f := 10) rfl ?_); refine goesL_ (some 17) rfl rfl Try.func10 (by kernel_rfl) rfl #[.slice A1 l1.length c1] rfl (by (try simp only [List.map_toArray, List.map_cons, List.map_nil]); first | done | rfl | (simp only [List.length_drop, List.length_take]; rfl)) ?_; (with_reducible refine (ringworklaw25_Notes.calls k _ _ l1 false _ ?side1 ?side2 A5.out).mono ?_); (case side1 => repeat (first | exact (Kd.C_below HR1.out HB.out) | (with_reducible refine Kd.C_alloc ?_ _) | (with_reducible refine Kd.C_drewN ?_ _) | (with_reducible refine Kd.C_drew ?_))); (case side2 => exact HC1.out); rintro e w' ⟨rfl, ⟨nd, rfl⟩⟩; refine ⟨_, rfl, ?_⟩))
      go_meet
      case rel => exact ⟨_, (true), (by first | rfl | (simp; done) | (simp [*]; done)), H', ⟨by first | omega | exact Nat.le_refl _⟩, ⟨by repeat (first | (with_reducible first | exact HB.out | apply below_alloc | apply pw_below_drewN | apply below_drew1) | exact HB.out)⟩⟩
  case rest =>
    clear HC4
    try clear c1
    try clear p2
    try clear c3
    try clear c6
    try clear c8
    try clear c9
    try clear c9b0
    obtain ⟨kq, x33_3, rfl, HA, HJ3, HB⟩ := hcut
    cases kq with
    | zero => exact absurd HA.out (by simp [ringworklaw25_JournalCuts.j0])
    | succ kj3 =>
      have H := HA.out
      clear HA
      simp only [ringworklaw25_JournalCuts.j0] at H
      by_cases c10 : x33_3 = true
      · subst c10
        have H1 : ((ringworklaw25_awake.f).bind fun t208 => (some t208)) = some r := by rw [if_pos rfl] at H; exact H
        clear H
        have H := H1
        clear H1
        replace H := Option.bind_eq_some_iff.mp H
        obtain ⟨t208, A110, H⟩ := H
        replace H : (some t208) = some r := H
        have A11 := Aside0.mk A110
        clear A110
        obtain rfl := Option.some.inj H
        go_wp2_with (first | ((with_reducible refine gate_callee (f := 12) rfl ?_); refine goesL_ (some 34) rfl rfl Try.func12 (by kernel_rfl) rfl #[] rfl (by (try simp only [List.map_toArray, List.map_cons, List.map_nil]); first | done | rfl | (simp only [List.length_drop, List.length_take]; rfl)) ?_; (with_reducible refine (ringworklaw25_awake.calls  t208 _ A11.out).mono ?_); rintro e w12 ⟨rfl, hb⟩; refine ⟨_, rfl, ?_⟩; have n0_ := Aside0.mk (below_step (by repeat (first | (with_reducible first | exact HB.out | apply below_alloc | apply pw_below_drewN | apply below_drew1) | exact HB.out)) hb); clear HB; have HB := n0_; clear n0_; (try clear hb); (try clear hb2); (try clear hk); (try clear hi)))
        go_ret
        exact ⟨by first | rfl | (simp [errW_none, errW_some] <;> rfl) | (simp [*, errW_none, errW_some] <;> rfl), by repeat (first | (with_reducible first | exact HB.out | apply below_alloc | apply pw_below_drewN | apply below_drew1) | exact HB.out)⟩
      · replace c10 := Bool.eq_false_iff.mpr c10
        subst c10
        have H1 : (if 0 ≤ a2 then (if a2 ≤ (l1.length : Int) then ((ringworkref25_Open.f kj3 (l1.take (a2 : Int).toNat)).bind fun bt213 => (if bt213.2 = 0 then (ringworklaw25_JournalCuts.j1 kj3 l0 l1 a2 (decide ((bt213.1.length : Int) > 0))) else (ringworklaw25_JournalCuts.j1 kj3 l0 l1 a2 true))) else (none)) else (none)) = some r := by rw [if_neg (show ¬ (false = true) by decide)] at H; exact H
        clear H
        have H := H1
        clear H1
        by_cases c13 : 0 ≤ a2
        · rw [if_pos c13] at H
          have c13b0 := eq_true c13
          have c13b1 : decide (0 ≤ a2) = true := decide_eq_true c13
          clear c13
          by_cases c14 : a2 ≤ (l1.length : Int)
          · rw [if_pos c14] at H
            have c14b0 := eq_true c14
            have c14b1 : decide (a2 ≤ (l1.length : Int)) = true := decide_eq_true c14
            clear c14
            obtain ⟨y209, hy209⟩ : ∃ y_ : List (S39), y_ = (l1.take (a2 : Int).toNat) := ⟨_, rfl⟩
            replace H : ((ringworkref25_Open.f kj3 y209).bind fun bt213 => (if bt213.2 = 0 then (ringworklaw25_JournalCuts.j1 kj3 l0 l1 a2 (decide ((bt213.1.length : Int) > 0))) else (ringworklaw25_JournalCuts.j1 kj3 l0 l1 a2 true))) = some r := by first | (rw [hy209]; with_reducible exact H) | (have H2_ := (Option.bind_some _ _).symm.trans H; rw [hy209]; with_reducible exact H2_) | (have H2_ := (Option.bind_some _ _).symm.trans H; with_reducible exact H2_) | with_reducible exact H | (rw [hy209]; exact H) | exact H
            have Ny209 := Aside0.mk hy209
            clear hy209
            replace H := Option.bind_eq_some_iff.mp H
            obtain ⟨⟨t213, t214⟩, A150, H⟩ := H
            replace H : (if t214 = 0 then (ringworklaw25_JournalCuts.j1 kj3 l0 l1 a2 (decide ((t213.length : Int) > 0))) else (ringworklaw25_JournalCuts.j1 kj3 l0 l1 a2 true)) = some r := H
            have A15 := Aside0.mk A150
            clear A150
            have HC16 := Aside0.mk H
            clear H
            have q17 : (a2 : Int) ≤ ((l1.length : Int) : Int) := of_decide_eq_true (by first | (with_reducible assumption) | assumption)
            obtain ⟨i017, hi017, _, hsz17, _⟩ := info_parts info39
            have hroom17 : l1.length ≤ c1 := HC1.out
            have hC17 : Kd.C k39 _ A1 l1.length l1 := HR1.out
            have hcut17 := cut_to (P := Try.prog) 23 39 .i64 Try.underlying23 hi017 A1 l1.length c1 a2 (of_decide_eq_true (by first | (with_reducible assumption) | assumption)) q17 hroom17
            have hr17 := Kd.C_take (m := (a2 : Int).toNat) hC17 (by omega)
            have hy17 : y209.length = (a2 : Int).toNat := (by rw [Ny209.out, List.length_take]; omega)
            rw [← Ny209.out] at hr17
            rw [← hy17] at hcut17
            have HR212 := Aside0.mk hr17
            have HC212 := Aside0.mk (show y209.length ≤ c1 from by omega)
            clear hr17 hC17 hroom17 hi017 hsz17
            have KY17 := Aside0.mk hy17
            clear hy17
            replace q17 := eq_true q17
            go_upto_region 4 with (first | ((with_reducible refine gate_callee (f := 13) rfl ?_); refine goesL_ (some 39) rfl rfl Try.func13 (by kernel_rfl) rfl #[.slice A1 y209.length c1] rfl (by (try simp only [List.map_toArray, List.map_cons, List.map_nil]); first | done | rfl | (simp only [List.length_drop, List.length_take]; rfl)) ?_; (with_reducible refine (ringworkref25_Open.calls kj3 _ _ y209 t213 t214 _ ?side1 ?side2 A15.out).mono ?_); (case side1 => repeat (first | exact (Kd.C_below HR212.out HB.out) | (with_reducible refine Kd.C_alloc ?_ _) | (with_reducible refine Kd.C_drewN ?_ _) | (with_reducible refine Kd.C_drew ?_))); (case side2 => exact HC212.out); rintro e w18 ⟨v215, rfl, ho0, hb⟩; refine ⟨_, rfl, ?_⟩; have n0_ := Aside0.mk (Kd.R_lower ho0 (below_size (by repeat (first | (with_reducible first | exact HB.out | apply below_alloc | apply pw_below_drewN | apply below_drew1) | exact HB.out)))); have n1_ := Aside0.mk (below_step (by repeat (first | (with_reducible first | exact HB.out | apply below_alloc | apply pw_below_drewN | apply below_drew1) | exact HB.out)) hb); clear HB; have HO216 := n0_; have HB := n1_; clear n0_ n1_; (try clear hb); (try clear hb2); (try clear hk); (try clear hi); (try clear ho0)))
            (try simp only [Act.put, List.setIfInBounds_toArray, List.set_cons_zero, List.set_cons_succ])
            go_cut [48] (fun v48 wc => ∃ (kq : Nat) (x48_15 : Bool), v48 = .bool x48_15 ∧ Aside0 (ringworklaw25_JournalCuts.j1 kq l0 l1 a2 x48_15 = some r) ∧ Aside0 (kq ≤ kj3) ∧ Aside0 (Below w.heap.size w wc))
            case first =>
              have H := HC16.out
              clear HC16
              by_cases c19 : t214 = 0
              · rw [if_pos c19] at H
                have c19b0 : (t214 == 0) = true := beq_iff_eq.mpr c19
                have c19b1 : (t214 != 0) = false := bne_eq_false_iff_eq.mpr c19
                clear c19
                (first | rw [c19b0] | (simp only [i64_w, i32_w]; rw [c19b0]) | skip)
                have H' := Aside0.mk H
                clear H
                obtain ⟨Ao20, co20, eo20⟩ := Kd.R_slice HO216.out
                subst eo20
                go_wp2
                go_meet
                case rel => exact ⟨_, (decide ((t213.length : Int) > 0)), (by first | rfl | (simp; done) | (simp [*]; done)), H', ⟨by have := HJ3.out; first | omega | exact Nat.le_refl _⟩, ⟨by repeat (first | (with_reducible first | exact HB.out | apply below_alloc | apply pw_below_drewN | apply below_drew1) | exact HB.out)⟩⟩
              · rw [if_neg c19] at H
                have c19b0 : (t214 == 0) = false := beq_eq_false_iff_ne.mpr c19
                have c19b1 : (t214 != 0) = true := bne_iff_ne.mpr c19
                (first | rw [c19b0] | (simp only [i64_w, i32_w]; rw [c19b0]) | skip)
                have H' := Aside0.mk H
                clear H
                go_wp2
                go_meet
                case rel => exact ⟨_, (true), (by first | rfl | (simp; done) | (simp [*]; done)), H', ⟨by have := HJ3.out; first | omega | exact Nat.le_refl _⟩, ⟨by repeat (first | (with_reducible first | exact HB.out | apply below_alloc | apply pw_below_drewN | apply below_drew1) | exact HB.out)⟩⟩
            case rest =>
              clear HC16
              try clear c1
              try clear q1
              try clear p2
              try clear c3
              try clear c6
              try clear c8
              try clear c9
              try clear c9b0
              try clear c10
              try clear c12
              try clear c13
              try clear c13b0
              try clear c13b1
              try clear c14
              try clear c14b0
              try clear c14b1
              try clear q17
              try clear c19
              try clear c19b0
              try clear c19b1
              try clear p2
              try clear q17
              obtain ⟨kq, x48_15, rfl, HA, HJ15, HB⟩ := hcut
              cases kq with
              | zero => exact absurd HA.out (by simp [ringworklaw25_JournalCuts.j1])
              | succ kj15 =>
                have H := HA.out
                clear HA
                simp only [ringworklaw25_JournalCuts.j1] at H
                by_cases c21 : x48_15 = true
                · subst c21
                  have H1 : ((ringworklaw25_awake.f).bind fun t217 => (some t217)) = some r := by rw [if_pos rfl] at H; exact H
                  clear H
                  have H := H1
                  clear H1
                  replace H := Option.bind_eq_some_iff.mp H
                  obtain ⟨t217, A220, H⟩ := H
                  replace H : (some t217) = some r := H
                  have A22 := Aside0.mk A220
                  clear A220
                  obtain rfl := Option.some.inj H
                  go_wp2_with (first | ((with_reducible refine gate_callee (f := 12) rfl ?_); refine goesL_ (some 49) rfl rfl Try.func12 (by kernel_rfl) rfl #[] rfl (by (try simp only [List.map_toArray, List.map_cons, List.map_nil]); first | done | rfl | (simp only [List.length_drop, List.length_take]; rfl)) ?_; (with_reducible refine (ringworklaw25_awake.calls  t217 _ A22.out).mono ?_); rintro e w23 ⟨rfl, hb⟩; refine ⟨_, rfl, ?_⟩; have n0_ := Aside0.mk (below_step (by repeat (first | (with_reducible first | exact HB.out | apply below_alloc | apply pw_below_drewN | apply below_drew1) | exact HB.out)) hb); clear HB; have HB := n0_; clear n0_; (try clear hb); (try clear hb2); (try clear hk); (try clear hi)))
                  go_ret
                  exact ⟨by first | rfl | (simp [errW_none, errW_some] <;> rfl) | (simp [*, errW_none, errW_some] <;> rfl), by repeat (first | (with_reducible first | exact HB.out | apply below_alloc | apply pw_below_drewN | apply below_drew1) | exact HB.out)⟩
                · replace c21 := Bool.eq_false_iff.mpr c21
                  subst c21
                  have H1 : ((ringworkref25_Open.f kj15 l1).bind fun bt218 => (if bt218.2 = 0 then ((journal_State.f l0 l1).bind fun bt223 => (if 0 ≤ a2 then (if a2 ≤ (l1.length : Int) then ((journal_State.f l0 (l1.take (a2 : Int).toNat)).bind fun bt231 => (if bt231.2 = 0 then ((journal_State.f bt231.1 (l1.drop (a2 : Int).toNat)).bind fun bt239 => (if bt223.2 = bt239.2 then ((ringworkref25_SameImages.f kj15 bt223.1 bt239.1).bind fun t243 => (if t243 = true then ((ringworklaw25_awake.f).bind fun t244 => (some t244)) else (some false))) else (some false))) else (if bt223.2 = 0 then (if bt231.2 = 4 then ((ringworklaw25_awake.f).bind fun t245 => (some t245)) else (some false)) else ((ringworklaw25_awake.f).bind fun t246 => (some t246))))) else (none)) else (none))) else ((ringworklaw25_awake.f).bind fun t222 => (some t222)))) = some r := by rw [if_neg (show ¬ (false = true) by decide)] at H; exact H
                  clear H
                  have H := H1
                  clear H1
                  replace H := Option.bind_eq_some_iff.mp H
                  obtain ⟨⟨t218, t219⟩, A240, H⟩ := H
                  replace H : (if t219 = 0 then ((journal_State.f l0 l1).bind fun bt223 => (if 0 ≤ a2 then (if a2 ≤ (l1.length : Int) then ((journal_State.f l0 (l1.take (a2 : Int).toNat)).bind fun bt231 => (if bt231.2 = 0 then ((journal_State.f bt231.1 (l1.drop (a2 : Int).toNat)).bind fun bt239 => (if bt223.2 = bt239.2 then ((ringworkref25_SameImages.f kj15 bt223.1 bt239.1).bind fun t243 => (if t243 = true then ((ringworklaw25_awake.f).bind fun t244 => (some t244)) else (some false))) else (some false))) else (if bt223.2 = 0 then (if bt231.2 = 4 then ((ringworklaw25_awake.f).bind fun t245 => (some t245)) else (some false)) else ((ringworklaw25_awake.f).bind fun t246 => (some t246))))) else (none)) else (none))) else ((ringworklaw25_awake.f).bind fun t222 => (some t222))) = some r := H
                  have A24 := Aside0.mk A240
                  clear A240
                  by_cases c25 : t219 = 0
                  · rw [if_pos c25] at H
                    have c25b0 : (t219 == 0) = true := beq_iff_eq.mpr c25
                    have c25b1 : (t219 != 0) = false := bne_eq_false_iff_eq.mpr c25
                    clear c25
                    replace H := Option.bind_eq_some_iff.mp H
                    obtain ⟨⟨t223, t224⟩, A260, H⟩ := H
                    replace H : (if 0 ≤ a2 then (if a2 ≤ (l1.length : Int) then ((journal_State.f l0 (l1.take (a2 : Int).toNat)).bind fun bt231 => (if bt231.2 = 0 then ((journal_State.f bt231.1 (l1.drop (a2 : Int).toNat)).bind fun bt239 => (if t224 = bt239.2 then ((ringworkref25_SameImages.f kj15 t223 bt239.1).bind fun t243 => (if t243 = true then ((ringworklaw25_awake.f).bind fun t244 => (some t244)) else (some false))) else (some false))) else (if t224 = 0 then (if bt231.2 = 4 then ((ringworklaw25_awake.f).bind fun t245 => (some t245)) else (some false)) else ((ringworklaw25_awake.f).bind fun t246 => (some t246))))) else (none)) else (none)) = some r := H
                    have A26 := Aside0.mk A260
                    clear A260
                    by_cases c27 : 0 ≤ a2
                    · rw [if_pos c27] at H
                      have c27b0 := eq_true c27
                      have c27b1 : decide (0 ≤ a2) = true := decide_eq_true c27
                      clear c27
                      by_cases c28 : a2 ≤ (l1.length : Int)
                      · rw [if_pos c28] at H
                        have c28b0 := eq_true c28
                        have c28b1 : decide (a2 ≤ (l1.length : Int)) = true := decide_eq_true c28
                        clear c28
                        obtain ⟨y227, hy227⟩ : ∃ y_ : List (S39), y_ = (l1.take (a2 : Int).toNat) := ⟨_, rfl⟩
                        replace H : ((journal_State.f l0 y227).bind fun bt231 => (if bt231.2 = 0 then ((journal_State.f bt231.1 (l1.drop (a2 : Int).toNat)).bind fun bt239 => (if t224 = bt239.2 then ((ringworkref25_SameImages.f kj15 t223 bt239.1).bind fun t243 => (if t243 = true then ((ringworklaw25_awake.f).bind fun t244 => (some t244)) else (some false))) else (some false))) else (if t224 = 0 then (if bt231.2 = 4 then ((ringworklaw25_awake.f).bind fun t245 => (some t245)) else (some false)) else ((ringworklaw25_awake.f).bind fun t246 => (some t246))))) = some r := by first | (rw [hy227]; with_reducible exact H) | (have H2_ := (Option.bind_some _ _).symm.trans H; rw [hy227]; with_reducible exact H2_) | (have H2_ := (Option.bind_some _ _).symm.trans H; with_reducible exact H2_) | with_reducible exact H | (rw [hy227]; exact H) | exact H
                        have Ny227 := Aside0.mk hy227
                        clear hy227
                        replace H := Option.bind_eq_some_iff.mp H
                        obtain ⟨⟨t231, t232⟩, A290, H⟩ := H
                        replace H : (if t232 = 0 then ((journal_State.f t231 (l1.drop (a2 : Int).toNat)).bind fun bt239 => (if t224 = bt239.2 then ((ringworkref25_SameImages.f kj15 t223 bt239.1).bind fun t243 => (if t243 = true then ((ringworklaw25_awake.f).bind fun t244 => (some t244)) else (some false))) else (some false))) else (if t224 = 0 then (if t232 = 4 then ((ringworklaw25_awake.f).bind fun t245 => (some t245)) else (some false)) else ((ringworklaw25_awake.f).bind fun t246 => (some t246)))) = some r := H
                        have A29 := Aside0.mk A290
                        clear A290
                        by_cases c30 : t232 = 0
                        · rw [if_pos c30] at H
                          have c30b0 : (t232 == 0) = true := beq_iff_eq.mpr c30
                          have c30b1 : (t232 != 0) = false := bne_eq_false_iff_eq.mpr c30
                          clear c30
                          have c31b0 := eq_true (of_decide_eq_true (by first | (with_reducible assumption) | assumption) : 0 ≤ a2)
                          have c32b0 := eq_true (of_decide_eq_true (by first | (with_reducible assumption) | assumption) : a2 ≤ (l1.length : Int))
                          obtain ⟨y235, hy235⟩ : ∃ y_ : List (S39), y_ = (l1.drop (a2 : Int).toNat) := ⟨_, rfl⟩
                          replace H : ((journal_State.f t231 y235).bind fun bt239 => (if t224 = bt239.2 then ((ringworkref25_SameImages.f kj15 t223 bt239.1).bind fun t243 => (if t243 = true then ((ringworklaw25_awake.f).bind fun t244 => (some t244)) else (some false))) else (some false))) = some r := by first | (rw [hy235]; with_reducible exact H) | (have H2_ := (Option.bind_some _ _).symm.trans H; rw [hy235]; with_reducible exact H2_) | (have H2_ := (Option.bind_some _ _).symm.trans H; with_reducible exact H2_) | with_reducible exact H | (rw [hy235]; exact H) | exact H
                          have Ny235 := Aside0.mk hy235
                          clear hy235
                          replace H := Option.bind_eq_some_iff.mp H
                          obtain ⟨⟨t239, t240⟩, A330, H⟩ := H
                          replace H : (if t224 = t240 then ((ringworkref25_SameImages.f kj15 t223 t239).bind fun t243 => (if t243 = true then ((ringworklaw25_awake.f).bind fun t244 => (some t244)) else (some false))) else (some false)) = some r := H
                          have A33 := Aside0.mk A330
                          clear A330
                          by_cases c34 : t224 = t240
                          · rw [if_pos c34] at H
                            have c34b0 : (t224 == t240) = true := beq_iff_eq.mpr c34
                            have c34b1 : (t224 != t240) = false := bne_eq_false_iff_eq.mpr c34
                            clear c34
                            replace H := Option.bind_eq_some_iff.mp H
                            obtain ⟨t243, A350, H⟩ := H
                            replace H : (if t243 = true then ((ringworklaw25_awake.f).bind fun t244 => (some t244)) else (some false)) = some r := H
                            have A35 := Aside0.mk A350
                            clear A350
                            by_cases c36 : t243 = true
                            · subst c36
                              have H1 : ((ringworklaw25_awake.f).bind fun t244 => (some t244)) = some r := by rw [if_pos rfl] at H; exact H
                              clear H
                              have H := H1
                              clear H1
                              replace H := Option.bind_eq_some_iff.mp H
                              obtain ⟨t244, A370, H⟩ := H
                              replace H : (some t244) = some r := H
                              have A37 := Aside0.mk A370
                              clear A370
                              obtain rfl := Option.some.inj H
                              go_wp2_with (first | ((with_reducible refine gate_callee (f := 13) rfl ?_); refine goesL_ (some 52) rfl rfl Try.func13 (by kernel_rfl) rfl #[.slice A1 l1.length c1] rfl (by (try simp only [List.map_toArray, List.map_cons, List.map_nil]); first | done | rfl | (simp only [List.length_drop, List.length_take]; rfl)) ?_; (with_reducible refine (ringworkref25_Open.calls kj15 _ _ l1 t218 t219 _ ?side1 ?side2 A24.out).mono ?_); (case side1 => repeat (first | exact (Kd.C_below HR1.out HB.out) | (with_reducible refine Kd.C_alloc ?_ _) | (with_reducible refine Kd.C_drewN ?_ _) | (with_reducible refine Kd.C_drew ?_))); (case side2 => exact HC1.out); rintro e w38 ⟨v220, rfl, ho0, hb⟩; refine ⟨_, rfl, ?_⟩; have n0_ := Aside0.mk (Kd.R_lower ho0 (below_size (by repeat (first | (with_reducible first | exact HB.out | apply below_alloc | apply pw_below_drewN | apply below_drew1) | exact HB.out)))); have n1_ := Aside0.mk (below_step (by repeat (first | (with_reducible first | exact HB.out | apply below_alloc | apply pw_below_drewN | apply below_drew1) | exact HB.out)) hb); clear HB; have HO221 := n0_; have HB := n1_; clear n0_ n1_; (try clear hb); (try clear hb2); (try clear hk); (try clear hi); (try clear ho0)) | ((with_reducible refine gate_callee (f := 14) rfl ?_); refine goesL_ (some 61) rfl rfl Try.func14 (by kernel_rfl) rfl #[.slice A0 l0.length c0, .slice A1 l1.length c1] rfl (by (try simp only [List.map_toArray, List.map_cons, List.map_nil]); first | done | rfl | (simp only [List.length_drop, List.length_take]; rfl)) ?_; (with_reducible refine (journal_State.calls _ _ l0 _ _ l1 t223 t224 _ ?side1 ?side2 ?side3 ?side4 A26.out).mono ?_); (case side1 => repeat (first | exact (Kd.C_below HR0.out HB.out) | (with_reducible refine Kd.C_alloc ?_ _) | (with_reducible refine Kd.C_drewN ?_ _) | (with_reducible refine Kd.C_drew ?_))); (case side2 => exact HC0.out); (case side3 => repeat (first | exact (Kd.C_below HR1.out HB.out) | (with_reducible refine Kd.C_alloc ?_ _) | (with_reducible refine Kd.C_drewN ?_ _) | (with_reducible refine Kd.C_drew ?_))); (case side4 => exact HC1.out); rintro e w39 ⟨v225, rfl, ho0, hb⟩; refine ⟨_, rfl, ?_⟩; have n0_ := Aside0.mk (Kd.R_below (by (with_reducible repeat (first | apply Kd.R_alloc | apply Kd.R_drewN | apply Kd.R_drew)); exact HO221.out) hb); have n1_ := Aside0.mk (Kd.R_lower ho0 (below_size (by repeat (first | (with_reducible first | exact HB.out | apply below_alloc | apply pw_below_drewN | apply below_drew1) | exact HB.out)))); have n2_ := Aside0.mk (below_step (by repeat (first | (with_reducible first | exact HB.out | apply below_alloc | apply pw_below_drewN | apply below_drew1) | exact HB.out)) hb); clear HO221; clear HB; have HO221 := n0_; have HO226 := n1_; have HB := n2_; clear n0_ n1_ n2_; (try clear hb); (try clear hb2); (try clear hk); (try clear hi); (try clear ho0); have q40 : (a2 : Int) ≤ ((l1.length : Int) : Int) := of_decide_eq_true (by first | (with_reducible assumption) | assumption); obtain ⟨i040, hi040, _, hsz40, _⟩ := info_parts info39; have hroom40 : l1.length ≤ c1 := HC1.out; have hC40 : Kd.C k39 _ A1 l1.length l1 := HR1.out; (try clear hcut17); have hcut40 := cut_to (P := Try.prog) 23 39 .i64 Try.underlying23 hi040 A1 l1.length c1 a2 (of_decide_eq_true (by first | (with_reducible assumption) | assumption)) q40 hroom40; have hr40 := Kd.C_take (m := (a2 : Int).toNat) hC40 (by omega); have hy40 : y227.length = (a2 : Int).toNat := (by rw [Ny227.out, List.length_take]; omega); rw [← Ny227.out] at hr40; rw [← hy40] at hcut40; have HR230 := Aside0.mk hr40; have HC230 := Aside0.mk (show y227.length ≤ c1 from by omega); clear hr40 hC40 hroom40 hi040 hsz40; have KY40 := Aside0.mk hy40; clear hy40; replace q40 := eq_true q40) | ((with_reducible refine gate_callee (f := 14) rfl ?_); refine goesL_ (some 69) rfl rfl Try.func14 (by kernel_rfl) rfl #[.slice A0 l0.length c0, .slice A1 y227.length c1] rfl (by (try simp only [List.map_toArray, List.map_cons, List.map_nil]); first | done | rfl | (simp only [List.length_drop, List.length_take]; rfl)) ?_; (with_reducible refine (journal_State.calls _ _ l0 _ _ y227 t231 t232 _ ?side1 ?side2 ?side3 ?side4 A29.out).mono ?_); (case side1 => repeat (first | exact (Kd.C_below HR0.out HB.out) | (with_reducible refine Kd.C_alloc ?_ _) | (with_reducible refine Kd.C_drewN ?_ _) | (with_reducible refine Kd.C_drew ?_))); (case side2 => exact HC0.out); (case side3 => repeat (first | exact (Kd.C_below HR230.out HB.out) | (with_reducible refine Kd.C_alloc ?_ _) | (with_reducible refine Kd.C_drewN ?_ _) | (with_reducible refine Kd.C_drew ?_))); (case side4 => exact HC230.out); rintro e w41 ⟨v233, rfl, ho0, hb⟩; refine ⟨_, rfl, ?_⟩; have n0_ := Aside0.mk (Kd.R_below (by (with_reducible repeat (first | apply Kd.R_alloc | apply Kd.R_drewN | apply Kd.R_drew)); exact HO221.out) hb); have n1_ := Aside0.mk (Kd.R_elder' (by (with_reducible repeat (first | apply Kd.R_alloc | apply Kd.R_drewN | apply Kd.R_drew)); exact HO226.out) (Kd.R_base ho0) hb); have n2_ := Aside0.mk (Kd.R_lower (Kd.R_new' ho0 (Kd.R_lt (by (with_reducible repeat (first | apply Kd.R_alloc | apply Kd.R_drewN | apply Kd.R_drew)); exact HO226.out))) (below_size (by repeat (first | (with_reducible first | exact HB.out | apply below_alloc | apply pw_below_drewN | apply below_drew1) | exact HB.out)))); have n3_ := Aside0.mk (below_step (by repeat (first | (with_reducible first | exact HB.out | apply below_alloc | apply pw_below_drewN | apply below_drew1) | exact HB.out)) hb); clear HO221; clear HO226; clear HB; have HO221 := n0_; have HO226 := n1_; have HO234 := n2_; have HB := n3_; clear n0_ n1_ n2_ n3_; (try clear hb); (try clear hb2); (try clear hk); (try clear hi); (try clear ho0); have q42 : (a2 : Int) ≤ ((l1.length : Int) : Int) := of_decide_eq_true (by first | (with_reducible assumption) | assumption); obtain ⟨i042, hi042, _, hsz42, _⟩ := info_parts info39; have hroom42 : l1.length ≤ c1 := HC1.out; have hC42 : Kd.C k39 _ A1 l1.length l1 := HR1.out; have q042 : (0 : Int) ≤ (a2 : Int) := of_decide_eq_true (by first | (with_reducible assumption) | assumption); (try clear hcut17); (try clear hcut40); have hcut42 := cut_from (P := Try.prog) 23 39 .i64 Try.underlying23 hi042 5 hsz42 A1 l1.length c1 a2 q042 q42; have hr42 := Kd.C_drop (m := (a2 : Int).toNat) (c := c1) hC42 (by omega) hroom42; obtain ⟨A42, hA42⟩ : ∃ AZ_, AZ_ = (if c1 = (a2 : Int).toNat then A1 else (A1 : Option Addr).map (·.add ((a2 : Int).toNat * 5))) := ⟨_, rfl⟩; obtain ⟨c42, hc42⟩ : ∃ cZ_, cZ_ = c1 - (a2 : Int).toNat := ⟨_, rfl⟩; have hy42 : y235.length = l1.length - (a2 : Int).toNat := (by rw [Ny235.out, List.length_drop] <;> omega); rw [show (l1).drop (a2 : Int).toNat = y235 from Ny235.out.symm] at hr42; replace hr42 : Kd.C k39 _ A42 y235.length y235 := (by rw [hA42]; exact hr42); rw [← hy42, ← hA42, ← hc42] at hcut42; have HR238 := Aside0.mk hr42; have HC238 := Aside0.mk (show y235.length ≤ c42 from by rw [hy42, hc42]; exact Nat.sub_le_sub_right hroom42 _); clear hr42 hC42 hroom42 hi042 hsz42 hc42; have KY42 := Aside0.mk hy42; have KA42 := Aside0.mk hA42; clear hy42 hA42; replace q42 := eq_true q42; obtain ⟨Ao43, co43, eo43⟩ := Kd.R_slice HO234.out; subst eo43) | ((with_reducible refine gate_callee (f := 14) rfl ?_); refine goesL_ (some 88) rfl rfl Try.func14 (by kernel_rfl) rfl #[.slice Ao43 t231.length co43, .slice A42 y235.length c42] rfl (by (try simp only [List.map_toArray, List.map_cons, List.map_nil]); first | done | rfl | (simp only [List.length_drop, List.length_take]; rfl)) ?_; (with_reducible refine (journal_State.calls _ _ t231 _ _ y235 t239 t240 _ ?side1 ?side2 ?side3 ?side4 A33.out).mono ?_); (case side1 => repeat (first | exact (Kd.R_reads' HO234.out).2.2 | (with_reducible refine Kd.C_alloc ?_ _) | (with_reducible refine Kd.C_drewN ?_ _) | (with_reducible refine Kd.C_drew ?_))); (case side2 => exact (Kd.R_reads' HO234.out).2.1); (case side3 => repeat (first | exact (Kd.C_below HR238.out HB.out) | (with_reducible refine Kd.C_alloc ?_ _) | (with_reducible refine Kd.C_drewN ?_ _) | (with_reducible refine Kd.C_drew ?_))); (case side4 => exact HC238.out); rintro e w44 ⟨v241, rfl, ho0, hb⟩; refine ⟨_, rfl, ?_⟩; have n0_ := Aside0.mk (Kd.R_below (by (with_reducible repeat (first | apply Kd.R_alloc | apply Kd.R_drewN | apply Kd.R_drew)); exact HO221.out) hb); have n1_ := Aside0.mk (Kd.R_elder' (by (with_reducible repeat (first | apply Kd.R_alloc | apply Kd.R_drewN | apply Kd.R_drew)); exact HO226.out) (Kd.R_base ho0) hb); have n2_ := Aside0.mk (Kd.R_elder' (by (with_reducible repeat (first | apply Kd.R_alloc | apply Kd.R_drewN | apply Kd.R_drew)); exact HO234.out) (Kd.R_base ho0) hb); have n3_ := Aside0.mk (Kd.R_lower (Kd.R_new' (Kd.R_new' ho0 (Kd.R_lt (by (with_reducible repeat (first | apply Kd.R_alloc | apply Kd.R_drewN | apply Kd.R_drew)); exact HO226.out))) (Kd.R_lt (by (with_reducible repeat (first | apply Kd.R_alloc | apply Kd.R_drewN | apply Kd.R_drew)); exact HO234.out))) (below_size (by repeat (first | (with_reducible first | exact HB.out | apply below_alloc | apply pw_below_drewN | apply below_drew1) | exact HB.out)))); have n4_ := Aside0.mk (below_step (by repeat (first | (with_reducible first | exact HB.out | apply below_alloc | apply pw_below_drewN | apply below_drew1) | exact HB.out)) hb); clear HO221; clear HO226; clear HO234; clear HB; have HO221 := n0_; have HO226 := n1_; have HO234 := n2_; have HO242 := n3_; have HB := n4_; clear n0_ n1_ n2_ n3_ n4_; (try clear hb); (try clear hb2); (try clear hk); (try clear hi); (try clear ho0); obtain ⟨Ao45, co45, eo45⟩ := Kd.R_slice HO226.out; subst eo45; obtain ⟨Ao46, co46, eo46⟩ := Kd.R_slice HO242.out; subst eo46) | (go_at_call 15; (with_reducible refine (ringworkref25_SameImages.calls kj15 _ _ t223 _ _ t239 true _ ?side1 ?side2 ?side3 ?side4 A35.out).mono ?_); (case side1 => repeat (first | exact (Kd.R_reads' HO226.out).2.2 | (with_reducible refine Kd.C_alloc ?_ _) | (with_reducible refine Kd.C_drewN ?_ _) | (with_reducible refine Kd.C_drew ?_))); (case side2 => exact (Kd.R_reads' HO226.out).2.1); (case side3 => repeat (first | exact (Kd.R_reads' HO242.out).2.2 | (with_reducible refine Kd.C_alloc ?_ _) | (with_reducible refine Kd.C_drewN ?_ _) | (with_reducible refine Kd.C_drew ?_))); (case side4 => exact (Kd.R_reads' HO242.out).2.1); rintro e w' ⟨rfl, ⟨nd, rfl⟩⟩) | (go_at_call 12; (with_reducible refine (ringworklaw25_awake.calls  t244 _ A37.out).mono ?_); rintro e w47 ⟨rfl, hb⟩; have n0_ := Aside0.mk (Kd.R_below (by (with_reducible repeat (first | apply Kd.R_alloc | apply Kd.R_drewN | apply Kd.R_drew)); exact HO221.out) hb); have n1_ := Aside0.mk (Kd.R_below (by (with_reducible repeat (first | apply Kd.R_alloc | apply Kd.R_drewN | apply Kd.R_drew)); exact HO226.out) hb); have n2_ := Aside0.mk (Kd.R_below (by (with_reducible repeat (first | apply Kd.R_alloc | apply Kd.R_drewN | apply Kd.R_drew)); exact HO234.out) hb); have n3_ := Aside0.mk (Kd.R_below (by (with_reducible repeat (first | apply Kd.R_alloc | apply Kd.R_drewN | apply Kd.R_drew)); exact HO242.out) hb); have n4_ := Aside0.mk (below_step (by repeat (first | (with_reducible first | exact HB.out | apply below_alloc | apply pw_below_drewN | apply below_drew1) | exact HB.out)) hb); clear HO221; clear HO226; clear HO234; clear HO242; clear HB; have HO221 := n0_; have HO226 := n1_; have HO234 := n2_; have HO242 := n3_; have HB := n4_; clear n0_ n1_ n2_ n3_ n4_; (try clear hb); (try clear hb2); (try clear hk); (try clear hi)))
                              go_ret
                              exact ⟨by first | rfl | (simp [errW_none, errW_some] <;> rfl) | (simp [*, errW_none, errW_some] <;> rfl), by repeat (first | (with_reducible first | exact HB.out | apply below_alloc | apply pw_below_drewN | apply below_drew1) | exact HB.out)⟩
                            · replace c36 := Bool.eq_false_iff.mpr c36
                              subst c36
                              have H1 : (some false) = some r := by rw [if_neg (show ¬ (false = true) by decide)] at H; exact H
                              clear H
                              have H := H1
                              clear H1
                              obtain rfl := Option.some.inj H
                              go_wp2_with (first | ((with_reducible refine gate_callee (f := 13) rfl ?_); refine goesL_ (some 52) rfl rfl Try.func13 (by kernel_rfl) rfl #[.slice A1 l1.length c1] rfl (by (try simp only [List.map_toArray, List.map_cons, List.map_nil]); first | done | rfl | (simp only [List.length_drop, List.length_take]; rfl)) ?_; (with_reducible refine (ringworkref25_Open.calls kj15 _ _ l1 t218 t219 _ ?side1 ?side2 A24.out).mono ?_); (case side1 => repeat (first | exact (Kd.C_below HR1.out HB.out) | (with_reducible refine Kd.C_alloc ?_ _) | (with_reducible refine Kd.C_drewN ?_ _) | (with_reducible refine Kd.C_drew ?_))); (case side2 => exact HC1.out); rintro e w48 ⟨v220, rfl, ho0, hb⟩; refine ⟨_, rfl, ?_⟩; have n0_ := Aside0.mk (Kd.R_lower ho0 (below_size (by repeat (first | (with_reducible first | exact HB.out | apply below_alloc | apply pw_below_drewN | apply below_drew1) | exact HB.out)))); have n1_ := Aside0.mk (below_step (by repeat (first | (with_reducible first | exact HB.out | apply below_alloc | apply pw_below_drewN | apply below_drew1) | exact HB.out)) hb); clear HB; have HO221 := n0_; have HB := n1_; clear n0_ n1_; (try clear hb); (try clear hb2); (try clear hk); (try clear hi); (try clear ho0)) | ((with_reducible refine gate_callee (f := 14) rfl ?_); refine goesL_ (some 61) rfl rfl Try.func14 (by kernel_rfl) rfl #[.slice A0 l0.length c0, .slice A1 l1.length c1] rfl (by (try simp only [List.map_toArray, List.map_cons, List.map_nil]); first | done | rfl | (simp only [List.length_drop, List.length_take]; rfl)) ?_; (with_reducible refine (journal_State.calls _ _ l0 _ _ l1 t223 t224 _ ?side1 ?side2 ?side3 ?side4 A26.out).mono ?_); (case side1 => repeat (first | exact (Kd.C_below HR0.out HB.out) | (with_reducible refine Kd.C_alloc ?_ _) | (with_reducible refine Kd.C_drewN ?_ _) | (with_reducible refine Kd.C_drew ?_))); (case side2 => exact HC0.out); (case side3 => repeat (first | exact (Kd.C_below HR1.out HB.out) | (with_reducible refine Kd.C_alloc ?_ _) | (with_reducible refine Kd.C_drewN ?_ _) | (with_reducible refine Kd.C_drew ?_))); (case side4 => exact HC1.out); rintro e w49 ⟨v225, rfl, ho0, hb⟩; refine ⟨_, rfl, ?_⟩; have n0_ := Aside0.mk (Kd.R_below (by (with_reducible repeat (first | apply Kd.R_alloc | apply Kd.R_drewN | apply Kd.R_drew)); exact HO221.out) hb); have n1_ := Aside0.mk (Kd.R_lower ho0 (below_size (by repeat (first | (with_reducible first | exact HB.out | apply below_alloc | apply pw_below_drewN | apply below_drew1) | exact HB.out)))); have n2_ := Aside0.mk (below_step (by repeat (first | (with_reducible first | exact HB.out | apply below_alloc | apply pw_below_drewN | apply below_drew1) | exact HB.out)) hb); clear HO221; clear HB; have HO221 := n0_; have HO226 := n1_; have HB := n2_; clear n0_ n1_ n2_; (try clear hb); (try clear hb2); (try clear hk); (try clear hi); (try clear ho0); have q50 : (a2 : Int) ≤ ((l1.length : Int) : Int) := of_decide_eq_true (by first | (with_reducible assumption) | assumption); obtain ⟨i050, hi050, _, hsz50, _⟩ := info_parts info39; have hroom50 : l1.length ≤ c1 := HC1.out; have hC50 : Kd.C k39 _ A1 l1.length l1 := HR1.out; (try clear hcut17); (try clear hcut40); (try clear hcut42); have hcut50 := cut_to (P := Try.prog) 23 39 .i64 Try.underlying23 hi050 A1 l1.length c1 a2 (of_decide_eq_true (by first | (with_reducible assumption) | assumption)) q50 hroom50; have hr50 := Kd.C_take (m := (a2 : Int).toNat) hC50 (by omega); have hy50 : y227.length = (a2 : Int).toNat := (by rw [Ny227.out, List.length_take]; omega); rw [← Ny227.out] at hr50; rw [← hy50] at hcut50; have HR230 := Aside0.mk hr50; have HC230 := Aside0.mk (show y227.length ≤ c1 from by omega); clear hr50 hC50 hroom50 hi050 hsz50; have KY50 := Aside0.mk hy50; clear hy50; replace q50 := eq_true q50) | ((with_reducible refine gate_callee (f := 14) rfl ?_); refine goesL_ (some 69) rfl rfl Try.func14 (by kernel_rfl) rfl #[.slice A0 l0.length c0, .slice A1 y227.length c1] rfl (by (try simp only [List.map_toArray, List.map_cons, List.map_nil]); first | done | rfl | (simp only [List.length_drop, List.length_take]; rfl)) ?_; (with_reducible refine (journal_State.calls _ _ l0 _ _ y227 t231 t232 _ ?side1 ?side2 ?side3 ?side4 A29.out).mono ?_); (case side1 => repeat (first | exact (Kd.C_below HR0.out HB.out) | (with_reducible refine Kd.C_alloc ?_ _) | (with_reducible refine Kd.C_drewN ?_ _) | (with_reducible refine Kd.C_drew ?_))); (case side2 => exact HC0.out); (case side3 => repeat (first | exact (Kd.C_below HR230.out HB.out) | (with_reducible refine Kd.C_alloc ?_ _) | (with_reducible refine Kd.C_drewN ?_ _) | (with_reducible refine Kd.C_drew ?_))); (case side4 => exact HC230.out); rintro e w51 ⟨v233, rfl, ho0, hb⟩; refine ⟨_, rfl, ?_⟩; have n0_ := Aside0.mk (Kd.R_below (by (with_reducible repeat (first | apply Kd.R_alloc | apply Kd.R_drewN | apply Kd.R_drew)); exact HO221.out) hb); have n1_ := Aside0.mk (Kd.R_elder' (by (with_reducible repeat (first | apply Kd.R_alloc | apply Kd.R_drewN | apply Kd.R_drew)); exact HO226.out) (Kd.R_base ho0) hb); have n2_ := Aside0.mk (Kd.R_lower (Kd.R_new' ho0 (Kd.R_lt (by (with_reducible repeat (first | apply Kd.R_alloc | apply Kd.R_drewN | apply Kd.R_drew)); exact HO226.out))) (below_size (by repeat (first | (with_reducible first | exact HB.out | apply below_alloc | apply pw_below_drewN | apply below_drew1) | exact HB.out)))); have n3_ := Aside0.mk (below_step (by repeat (first | (with_reducible first | exact HB.out | apply below_alloc | apply pw_below_drewN | apply below_drew1) | exact HB.out)) hb); clear HO221; clear HO226; clear HB; have HO221 := n0_; have HO226 := n1_; have HO234 := n2_; have HB := n3_; clear n0_ n1_ n2_ n3_; (try clear hb); (try clear hb2); (try clear hk); (try clear hi); (try clear ho0); have q52 : (a2 : Int) ≤ ((l1.length : Int) : Int) := of_decide_eq_true (by first | (with_reducible assumption) | assumption); obtain ⟨i052, hi052, _, hsz52, _⟩ := info_parts info39; have hroom52 : l1.length ≤ c1 := HC1.out; have hC52 : Kd.C k39 _ A1 l1.length l1 := HR1.out; have q052 : (0 : Int) ≤ (a2 : Int) := of_decide_eq_true (by first | (with_reducible assumption) | assumption); (try clear hcut17); (try clear hcut40); (try clear hcut42); (try clear hcut50); have hcut52 := cut_from (P := Try.prog) 23 39 .i64 Try.underlying23 hi052 5 hsz52 A1 l1.length c1 a2 q052 q52; have hr52 := Kd.C_drop (m := (a2 : Int).toNat) (c := c1) hC52 (by omega) hroom52; obtain ⟨A52, hA52⟩ : ∃ AZ_, AZ_ = (if c1 = (a2 : Int).toNat then A1 else (A1 : Option Addr).map (·.add ((a2 : Int).toNat * 5))) := ⟨_, rfl⟩; obtain ⟨c52, hc52⟩ : ∃ cZ_, cZ_ = c1 - (a2 : Int).toNat := ⟨_, rfl⟩; have hy52 : y235.length = l1.length - (a2 : Int).toNat := (by rw [Ny235.out, List.length_drop] <;> omega); rw [show (l1).drop (a2 : Int).toNat = y235 from Ny235.out.symm] at hr52; replace hr52 : Kd.C k39 _ A52 y235.length y235 := (by rw [hA52]; exact hr52); rw [← hy52, ← hA52, ← hc52] at hcut52; have HR238 := Aside0.mk hr52; have HC238 := Aside0.mk (show y235.length ≤ c52 from by rw [hy52, hc52]; exact Nat.sub_le_sub_right hroom52 _); clear hr52 hC52 hroom52 hi052 hsz52 hc52; have KY52 := Aside0.mk hy52; have KA52 := Aside0.mk hA52; clear hy52 hA52; replace q52 := eq_true q52; obtain ⟨Ao53, co53, eo53⟩ := Kd.R_slice HO234.out; subst eo53) | ((with_reducible refine gate_callee (f := 14) rfl ?_); refine goesL_ (some 88) rfl rfl Try.func14 (by kernel_rfl) rfl #[.slice Ao53 t231.length co53, .slice A52 y235.length c52] rfl (by (try simp only [List.map_toArray, List.map_cons, List.map_nil]); first | done | rfl | (simp only [List.length_drop, List.length_take]; rfl)) ?_; (with_reducible refine (journal_State.calls _ _ t231 _ _ y235 t239 t240 _ ?side1 ?side2 ?side3 ?side4 A33.out).mono ?_); (case side1 => repeat (first | exact (Kd.R_reads' HO234.out).2.2 | (with_reducible refine Kd.C_alloc ?_ _) | (with_reducible refine Kd.C_drewN ?_ _) | (with_reducible refine Kd.C_drew ?_))); (case side2 => exact (Kd.R_reads' HO234.out).2.1); (case side3 => repeat (first | exact (Kd.C_below HR238.out HB.out) | (with_reducible refine Kd.C_alloc ?_ _) | (with_reducible refine Kd.C_drewN ?_ _) | (with_reducible refine Kd.C_drew ?_))); (case side4 => exact HC238.out); rintro e w54 ⟨v241, rfl, ho0, hb⟩; refine ⟨_, rfl, ?_⟩; have n0_ := Aside0.mk (Kd.R_below (by (with_reducible repeat (first | apply Kd.R_alloc | apply Kd.R_drewN | apply Kd.R_drew)); exact HO221.out) hb); have n1_ := Aside0.mk (Kd.R_elder' (by (with_reducible repeat (first | apply Kd.R_alloc | apply Kd.R_drewN | apply Kd.R_drew)); exact HO226.out) (Kd.R_base ho0) hb); have n2_ := Aside0.mk (Kd.R_elder' (by (with_reducible repeat (first | apply Kd.R_alloc | apply Kd.R_drewN | apply Kd.R_drew)); exact HO234.out) (Kd.R_base ho0) hb); have n3_ := Aside0.mk (Kd.R_lower (Kd.R_new' (Kd.R_new' ho0 (Kd.R_lt (by (with_reducible repeat (first | apply Kd.R_alloc | apply Kd.R_drewN | apply Kd.R_drew)); exact HO226.out))) (Kd.R_lt (by (with_reducible repeat (first | apply Kd.R_alloc | apply Kd.R_drewN | apply Kd.R_drew)); exact HO234.out))) (below_size (by repeat (first | (with_reducible first | exact HB.out | apply below_alloc | apply pw_below_drewN | apply below_drew1) | exact HB.out)))); have n4_ := Aside0.mk (below_step (by repeat (first | (with_reducible first | exact HB.out | apply below_alloc | apply pw_below_drewN | apply below_drew1) | exact HB.out)) hb); clear HO221; clear HO226; clear HO234; clear HB; have HO221 := n0_; have HO226 := n1_; have HO234 := n2_; have HO242 := n3_; have HB := n4_; clear n0_ n1_ n2_ n3_ n4_; (try clear hb); (try clear hb2); (try clear hk); (try clear hi); (try clear ho0); obtain ⟨Ao55, co55, eo55⟩ := Kd.R_slice HO226.out; subst eo55; obtain ⟨Ao56, co56, eo56⟩ := Kd.R_slice HO242.out; subst eo56) | (go_at_call 15; (with_reducible refine (ringworkref25_SameImages.calls kj15 _ _ t223 _ _ t239 false _ ?side1 ?side2 ?side3 ?side4 A35.out).mono ?_); (case side1 => repeat (first | exact (Kd.R_reads' HO226.out).2.2 | (with_reducible refine Kd.C_alloc ?_ _) | (with_reducible refine Kd.C_drewN ?_ _) | (with_reducible refine Kd.C_drew ?_))); (case side2 => exact (Kd.R_reads' HO226.out).2.1); (case side3 => repeat (first | exact (Kd.R_reads' HO242.out).2.2 | (with_reducible refine Kd.C_alloc ?_ _) | (with_reducible refine Kd.C_drewN ?_ _) | (with_reducible refine Kd.C_drew ?_))); (case side4 => exact (Kd.R_reads' HO242.out).2.1); rintro e w' ⟨rfl, ⟨nd, rfl⟩⟩))
                              go_ret
                              exact ⟨by first | rfl | (simp [errW_none, errW_some] <;> rfl) | (simp [*, errW_none, errW_some] <;> rfl), by repeat (first | (with_reducible first | exact HB.out | apply below_alloc | apply pw_below_drewN | apply below_drew1) | exact HB.out)⟩
                          · rw [if_neg c34] at H
                            have c34b0 : (t224 == t240) = false := beq_eq_false_iff_ne.mpr c34
                            have c34b1 : (t224 != t240) = true := bne_iff_ne.mpr c34
                            obtain rfl := Option.some.inj H
                            go_wp2_with (first | ((with_reducible refine gate_callee (f := 13) rfl ?_); refine goesL_ (some 52) rfl rfl Try.func13 (by kernel_rfl) rfl #[.slice A1 l1.length c1] rfl (by (try simp only [List.map_toArray, List.map_cons, List.map_nil]); first | done | rfl | (simp only [List.length_drop, List.length_take]; rfl)) ?_; (with_reducible refine (ringworkref25_Open.calls kj15 _ _ l1 t218 t219 _ ?side1 ?side2 A24.out).mono ?_); (case side1 => repeat (first | exact (Kd.C_below HR1.out HB.out) | (with_reducible refine Kd.C_alloc ?_ _) | (with_reducible refine Kd.C_drewN ?_ _) | (with_reducible refine Kd.C_drew ?_))); (case side2 => exact HC1.out); rintro e w57 ⟨v220, rfl, ho0, hb⟩; refine ⟨_, rfl, ?_⟩; have n0_ := Aside0.mk (Kd.R_lower ho0 (below_size (by repeat (first | (with_reducible first | exact HB.out | apply below_alloc | apply pw_below_drewN | apply below_drew1) | exact HB.out)))); have n1_ := Aside0.mk (below_step (by repeat (first | (with_reducible first | exact HB.out | apply below_alloc | apply pw_below_drewN | apply below_drew1) | exact HB.out)) hb); clear HB; have HO221 := n0_; have HB := n1_; clear n0_ n1_; (try clear hb); (try clear hb2); (try clear hk); (try clear hi); (try clear ho0)) | ((with_reducible refine gate_callee (f := 14) rfl ?_); refine goesL_ (some 61) rfl rfl Try.func14 (by kernel_rfl) rfl #[.slice A0 l0.length c0, .slice A1 l1.length c1] rfl (by (try simp only [List.map_toArray, List.map_cons, List.map_nil]); first | done | rfl | (simp only [List.length_drop, List.length_take]; rfl)) ?_; (with_reducible refine (journal_State.calls _ _ l0 _ _ l1 t223 t224 _ ?side1 ?side2 ?side3 ?side4 A26.out).mono ?_); (case side1 => repeat (first | exact (Kd.C_below HR0.out HB.out) | (with_reducible refine Kd.C_alloc ?_ _) | (with_reducible refine Kd.C_drewN ?_ _) | (with_reducible refine Kd.C_drew ?_))); (case side2 => exact HC0.out); (case side3 => repeat (first | exact (Kd.C_below HR1.out HB.out) | (with_reducible refine Kd.C_alloc ?_ _) | (with_reducible refine Kd.C_drewN ?_ _) | (with_reducible refine Kd.C_drew ?_))); (case side4 => exact HC1.out); rintro e w58 ⟨v225, rfl, ho0, hb⟩; refine ⟨_, rfl, ?_⟩; have n0_ := Aside0.mk (Kd.R_below (by (with_reducible repeat (first | apply Kd.R_alloc | apply Kd.R_drewN | apply Kd.R_drew)); exact HO221.out) hb); have n1_ := Aside0.mk (Kd.R_lower ho0 (below_size (by repeat (first | (with_reducible first | exact HB.out | apply below_alloc | apply pw_below_drewN | apply below_drew1) | exact HB.out)))); have n2_ := Aside0.mk (below_step (by repeat (first | (with_reducible first | exact HB.out | apply below_alloc | apply pw_below_drewN | apply below_drew1) | exact HB.out)) hb); clear HO221; clear HB; have HO221 := n0_; have HO226 := n1_; have HB := n2_; clear n0_ n1_ n2_; (try clear hb); (try clear hb2); (try clear hk); (try clear hi); (try clear ho0); have q59 : (a2 : Int) ≤ ((l1.length : Int) : Int) := of_decide_eq_true (by first | (with_reducible assumption) | assumption); obtain ⟨i059, hi059, _, hsz59, _⟩ := info_parts info39; have hroom59 : l1.length ≤ c1 := HC1.out; have hC59 : Kd.C k39 _ A1 l1.length l1 := HR1.out; (try clear hcut17); (try clear hcut40); (try clear hcut42); (try clear hcut50); (try clear hcut52); have hcut59 := cut_to (P := Try.prog) 23 39 .i64 Try.underlying23 hi059 A1 l1.length c1 a2 (of_decide_eq_true (by first | (with_reducible assumption) | assumption)) q59 hroom59; have hr59 := Kd.C_take (m := (a2 : Int).toNat) hC59 (by omega); have hy59 : y227.length = (a2 : Int).toNat := (by rw [Ny227.out, List.length_take]; omega); rw [← Ny227.out] at hr59; rw [← hy59] at hcut59; have HR230 := Aside0.mk hr59; have HC230 := Aside0.mk (show y227.length ≤ c1 from by omega); clear hr59 hC59 hroom59 hi059 hsz59; have KY59 := Aside0.mk hy59; clear hy59; replace q59 := eq_true q59) | ((with_reducible refine gate_callee (f := 14) rfl ?_); refine goesL_ (some 69) rfl rfl Try.func14 (by kernel_rfl) rfl #[.slice A0 l0.length c0, .slice A1 y227.length c1] rfl (by (try simp only [List.map_toArray, List.map_cons, List.map_nil]); first | done | rfl | (simp only [List.length_drop, List.length_take]; rfl)) ?_; (with_reducible refine (journal_State.calls _ _ l0 _ _ y227 t231 t232 _ ?side1 ?side2 ?side3 ?side4 A29.out).mono ?_); (case side1 => repeat (first | exact (Kd.C_below HR0.out HB.out) | (with_reducible refine Kd.C_alloc ?_ _) | (with_reducible refine Kd.C_drewN ?_ _) | (with_reducible refine Kd.C_drew ?_))); (case side2 => exact HC0.out); (case side3 => repeat (first | exact (Kd.C_below HR230.out HB.out) | (with_reducible refine Kd.C_alloc ?_ _) | (with_reducible refine Kd.C_drewN ?_ _) | (with_reducible refine Kd.C_drew ?_))); (case side4 => exact HC230.out); rintro e w60 ⟨v233, rfl, ho0, hb⟩; refine ⟨_, rfl, ?_⟩; have n0_ := Aside0.mk (Kd.R_below (by (with_reducible repeat (first | apply Kd.R_alloc | apply Kd.R_drewN | apply Kd.R_drew)); exact HO221.out) hb); have n1_ := Aside0.mk (Kd.R_elder' (by (with_reducible repeat (first | apply Kd.R_alloc | apply Kd.R_drewN | apply Kd.R_drew)); exact HO226.out) (Kd.R_base ho0) hb); have n2_ := Aside0.mk (Kd.R_lower (Kd.R_new' ho0 (Kd.R_lt (by (with_reducible repeat (first | apply Kd.R_alloc | apply Kd.R_drewN | apply Kd.R_drew)); exact HO226.out))) (below_size (by repeat (first | (with_reducible first | exact HB.out | apply below_alloc | apply pw_below_drewN | apply below_drew1) | exact HB.out)))); have n3_ := Aside0.mk (below_step (by repeat (first | (with_reducible first | exact HB.out | apply below_alloc | apply pw_below_drewN | apply below_drew1) | exact HB.out)) hb); clear HO221; clear HO226; clear HB; have HO221 := n0_; have HO226 := n1_; have HO234 := n2_; have HB := n3_; clear n0_ n1_ n2_ n3_; (try clear hb); (try clear hb2); (try clear hk); (try clear hi); (try clear ho0); have q61 : (a2 : Int) ≤ ((l1.length : Int) : Int) := of_decide_eq_true (by first | (with_reducible assumption) | assumption); obtain ⟨i061, hi061, _, hsz61, _⟩ := info_parts info39; have hroom61 : l1.length ≤ c1 := HC1.out; have hC61 : Kd.C k39 _ A1 l1.length l1 := HR1.out; have q061 : (0 : Int) ≤ (a2 : Int) := of_decide_eq_true (by first | (with_reducible assumption) | assumption); (try clear hcut17); (try clear hcut40); (try clear hcut42); (try clear hcut50); (try clear hcut52); (try clear hcut59); have hcut61 := cut_from (P := Try.prog) 23 39 .i64 Try.underlying23 hi061 5 hsz61 A1 l1.length c1 a2 q061 q61; have hr61 := Kd.C_drop (m := (a2 : Int).toNat) (c := c1) hC61 (by omega) hroom61; obtain ⟨A61, hA61⟩ : ∃ AZ_, AZ_ = (if c1 = (a2 : Int).toNat then A1 else (A1 : Option Addr).map (·.add ((a2 : Int).toNat * 5))) := ⟨_, rfl⟩; obtain ⟨c61, hc61⟩ : ∃ cZ_, cZ_ = c1 - (a2 : Int).toNat := ⟨_, rfl⟩; have hy61 : y235.length = l1.length - (a2 : Int).toNat := (by rw [Ny235.out, List.length_drop] <;> omega); rw [show (l1).drop (a2 : Int).toNat = y235 from Ny235.out.symm] at hr61; replace hr61 : Kd.C k39 _ A61 y235.length y235 := (by rw [hA61]; exact hr61); rw [← hy61, ← hA61, ← hc61] at hcut61; have HR238 := Aside0.mk hr61; have HC238 := Aside0.mk (show y235.length ≤ c61 from by rw [hy61, hc61]; exact Nat.sub_le_sub_right hroom61 _); clear hr61 hC61 hroom61 hi061 hsz61 hc61; have KY61 := Aside0.mk hy61; have KA61 := Aside0.mk hA61; clear hy61 hA61; replace q61 := eq_true q61; obtain ⟨Ao62, co62, eo62⟩ := Kd.R_slice HO234.out; subst eo62) | ((with_reducible refine gate_callee (f := 14) rfl ?_); refine goesL_ (some 88) rfl rfl Try.func14 (by kernel_rfl) rfl #[.slice Ao62 t231.length co62, .slice A61 y235.length c61] rfl (by (try simp only [List.map_toArray, List.map_cons, List.map_nil]); first | done | rfl | (simp only [List.length_drop, List.length_take]; rfl)) ?_; (with_reducible refine (journal_State.calls _ _ t231 _ _ y235 t239 t240 _ ?side1 ?side2 ?side3 ?side4 A33.out).mono ?_); (case side1 => repeat (first | exact (Kd.R_reads' HO234.out).2.2 | (with_reducible refine Kd.C_alloc ?_ _) | (with_reducible refine Kd.C_drewN ?_ _) | (with_reducible refine Kd.C_drew ?_))); (case side2 => exact (Kd.R_reads' HO234.out).2.1); (case side3 => repeat (first | exact (Kd.C_below HR238.out HB.out) | (with_reducible refine Kd.C_alloc ?_ _) | (with_reducible refine Kd.C_drewN ?_ _) | (with_reducible refine Kd.C_drew ?_))); (case side4 => exact HC238.out); rintro e w63 ⟨v241, rfl, ho0, hb⟩; refine ⟨_, rfl, ?_⟩; have n0_ := Aside0.mk (Kd.R_below (by (with_reducible repeat (first | apply Kd.R_alloc | apply Kd.R_drewN | apply Kd.R_drew)); exact HO221.out) hb); have n1_ := Aside0.mk (Kd.R_elder' (by (with_reducible repeat (first | apply Kd.R_alloc | apply Kd.R_drewN | apply Kd.R_drew)); exact HO226.out) (Kd.R_base ho0) hb); have n2_ := Aside0.mk (Kd.R_elder' (by (with_reducible repeat (first | apply Kd.R_alloc | apply Kd.R_drewN | apply Kd.R_drew)); exact HO234.out) (Kd.R_base ho0) hb); have n3_ := Aside0.mk (Kd.R_lower (Kd.R_new' (Kd.R_new' ho0 (Kd.R_lt (by (with_reducible repeat (first | apply Kd.R_alloc | apply Kd.R_drewN | apply Kd.R_drew)); exact HO226.out))) (Kd.R_lt (by (with_reducible repeat (first | apply Kd.R_alloc | apply Kd.R_drewN | apply Kd.R_drew)); exact HO234.out))) (below_size (by repeat (first | (with_reducible first | exact HB.out | apply below_alloc | apply pw_below_drewN | apply below_drew1) | exact HB.out)))); have n4_ := Aside0.mk (below_step (by repeat (first | (with_reducible first | exact HB.out | apply below_alloc | apply pw_below_drewN | apply below_drew1) | exact HB.out)) hb); clear HO221; clear HO226; clear HO234; clear HB; have HO221 := n0_; have HO226 := n1_; have HO234 := n2_; have HO242 := n3_; have HB := n4_; clear n0_ n1_ n2_ n3_ n4_; (try clear hb); (try clear hb2); (try clear hk); (try clear hi); (try clear ho0)))
                            go_ret
                            exact ⟨by first | rfl | (simp [errW_none, errW_some] <;> rfl) | (simp [*, errW_none, errW_some] <;> rfl), by repeat (first | (with_reducible first | exact HB.out | apply below_alloc | apply pw_below_drewN | apply below_drew1) | exact HB.out)⟩
                        · rw [if_neg c30] at H
                          have c30b0 : (t232 == 0) = false := beq_eq_false_iff_ne.mpr c30
                          have c30b1 : (t232 != 0) = true := bne_iff_ne.mpr c30
                          by_cases c64 : t224 = 0
                          · rw [if_pos c64] at H
                            have c64b0 : (t224 == 0) = true := beq_iff_eq.mpr c64
                            have c64b1 : (t224 != 0) = false := bne_eq_false_iff_eq.mpr c64
                            clear c64
                            by_cases c65 : t232 = 4
                            · rw [if_pos c65] at H
                              have c65b0 : (t232 == 4) = true := beq_iff_eq.mpr c65
                              have c65b1 : (t232 != 4) = false := bne_eq_false_iff_eq.mpr c65
                              clear c65
                              replace H := Option.bind_eq_some_iff.mp H
                              obtain ⟨t245, A660, H⟩ := H
                              replace H : (some t245) = some r := H
                              have A66 := Aside0.mk A660
                              clear A660
                              obtain rfl := Option.some.inj H
                              go_wp2_with (first | ((with_reducible refine gate_callee (f := 13) rfl ?_); refine goesL_ (some 52) rfl rfl Try.func13 (by kernel_rfl) rfl #[.slice A1 l1.length c1] rfl (by (try simp only [List.map_toArray, List.map_cons, List.map_nil]); first | done | rfl | (simp only [List.length_drop, List.length_take]; rfl)) ?_; (with_reducible refine (ringworkref25_Open.calls kj15 _ _ l1 t218 t219 _ ?side1 ?side2 A24.out).mono ?_); (case side1 => repeat (first | exact (Kd.C_below HR1.out HB.out) | (with_reducible refine Kd.C_alloc ?_ _) | (with_reducible refine Kd.C_drewN ?_ _) | (with_reducible refine Kd.C_drew ?_))); (case side2 => exact HC1.out); rintro e w67 ⟨v220, rfl, ho0, hb⟩; refine ⟨_, rfl, ?_⟩; have n0_ := Aside0.mk (Kd.R_lower ho0 (below_size (by repeat (first | (with_reducible first | exact HB.out | apply below_alloc | apply pw_below_drewN | apply below_drew1) | exact HB.out)))); have n1_ := Aside0.mk (below_step (by repeat (first | (with_reducible first | exact HB.out | apply below_alloc | apply pw_below_drewN | apply below_drew1) | exact HB.out)) hb); clear HB; have HO221 := n0_; have HB := n1_; clear n0_ n1_; (try clear hb); (try clear hb2); (try clear hk); (try clear hi); (try clear ho0)) | ((with_reducible refine gate_callee (f := 14) rfl ?_); refine goesL_ (some 61) rfl rfl Try.func14 (by kernel_rfl) rfl #[.slice A0 l0.length c0, .slice A1 l1.length c1] rfl (by (try simp only [List.map_toArray, List.map_cons, List.map_nil]); first | done | rfl | (simp only [List.length_drop, List.length_take]; rfl)) ?_; (with_reducible refine (journal_State.calls _ _ l0 _ _ l1 t223 t224 _ ?side1 ?side2 ?side3 ?side4 A26.out).mono ?_); (case side1 => repeat (first | exact (Kd.C_below HR0.out HB.out) | (with_reducible refine Kd.C_alloc ?_ _) | (with_reducible refine Kd.C_drewN ?_ _) | (with_reducible refine Kd.C_drew ?_))); (case side2 => exact HC0.out); (case side3 => repeat (first | exact (Kd.C_below HR1.out HB.out) | (with_reducible refine Kd.C_alloc ?_ _) | (with_reducible refine Kd.C_drewN ?_ _) | (with_reducible refine Kd.C_drew ?_))); (case side4 => exact HC1.out); rintro e w68 ⟨v225, rfl, ho0, hb⟩; refine ⟨_, rfl, ?_⟩; have n0_ := Aside0.mk (Kd.R_below (by (with_reducible repeat (first | apply Kd.R_alloc | apply Kd.R_drewN | apply Kd.R_drew)); exact HO221.out) hb); have n1_ := Aside0.mk (Kd.R_lower ho0 (below_size (by repeat (first | (with_reducible first | exact HB.out | apply below_alloc | apply pw_below_drewN | apply below_drew1) | exact HB.out)))); have n2_ := Aside0.mk (below_step (by repeat (first | (with_reducible first | exact HB.out | apply below_alloc | apply pw_below_drewN | apply below_drew1) | exact HB.out)) hb); clear HO221; clear HB; have HO221 := n0_; have HO226 := n1_; have HB := n2_; clear n0_ n1_ n2_; (try clear hb); (try clear hb2); (try clear hk); (try clear hi); (try clear ho0); have q69 : (a2 : Int) ≤ ((l1.length : Int) : Int) := of_decide_eq_true (by first | (with_reducible assumption) | assumption); obtain ⟨i069, hi069, _, hsz69, _⟩ := info_parts info39; have hroom69 : l1.length ≤ c1 := HC1.out; have hC69 : Kd.C k39 _ A1 l1.length l1 := HR1.out; (try clear hcut17); (try clear hcut40); (try clear hcut42); (try clear hcut50); (try clear hcut52); (try clear hcut59); (try clear hcut61); have hcut69 := cut_to (P := Try.prog) 23 39 .i64 Try.underlying23 hi069 A1 l1.length c1 a2 (of_decide_eq_true (by first | (with_reducible assumption) | assumption)) q69 hroom69; have hr69 := Kd.C_take (m := (a2 : Int).toNat) hC69 (by omega); have hy69 : y227.length = (a2 : Int).toNat := (by rw [Ny227.out, List.length_take]; omega); rw [← Ny227.out] at hr69; rw [← hy69] at hcut69; have HR230 := Aside0.mk hr69; have HC230 := Aside0.mk (show y227.length ≤ c1 from by omega); clear hr69 hC69 hroom69 hi069 hsz69; have KY69 := Aside0.mk hy69; clear hy69; replace q69 := eq_true q69) | ((with_reducible refine gate_callee (f := 14) rfl ?_); refine goesL_ (some 69) rfl rfl Try.func14 (by kernel_rfl) rfl #[.slice A0 l0.length c0, .slice A1 y227.length c1] rfl (by (try simp only [List.map_toArray, List.map_cons, List.map_nil]); first | done | rfl | (simp only [List.length_drop, List.length_take]; rfl)) ?_; (with_reducible refine (journal_State.calls _ _ l0 _ _ y227 t231 t232 _ ?side1 ?side2 ?side3 ?side4 A29.out).mono ?_); (case side1 => repeat (first | exact (Kd.C_below HR0.out HB.out) | (with_reducible refine Kd.C_alloc ?_ _) | (with_reducible refine Kd.C_drewN ?_ _) | (with_reducible refine Kd.C_drew ?_))); (case side2 => exact HC0.out); (case side3 => repeat (first | exact (Kd.C_below HR230.out HB.out) | (with_reducible refine Kd.C_alloc ?_ _) | (with_reducible refine Kd.C_drewN ?_ _) | (with_reducible refine Kd.C_drew ?_))); (case side4 => exact HC230.out); rintro e w70 ⟨v233, rfl, ho0, hb⟩; refine ⟨_, rfl, ?_⟩; have n0_ := Aside0.mk (Kd.R_below (by (with_reducible repeat (first | apply Kd.R_alloc | apply Kd.R_drewN | apply Kd.R_drew)); exact HO221.out) hb); have n1_ := Aside0.mk (Kd.R_elder' (by (with_reducible repeat (first | apply Kd.R_alloc | apply Kd.R_drewN | apply Kd.R_drew)); exact HO226.out) (Kd.R_base ho0) hb); have n2_ := Aside0.mk (Kd.R_lower (Kd.R_new' ho0 (Kd.R_lt (by (with_reducible repeat (first | apply Kd.R_alloc | apply Kd.R_drewN | apply Kd.R_drew)); exact HO226.out))) (below_size (by repeat (first | (with_reducible first | exact HB.out | apply below_alloc | apply pw_below_drewN | apply below_drew1) | exact HB.out)))); have n3_ := Aside0.mk (below_step (by repeat (first | (with_reducible first | exact HB.out | apply below_alloc | apply pw_below_drewN | apply below_drew1) | exact HB.out)) hb); clear HO221; clear HO226; clear HB; have HO221 := n0_; have HO226 := n1_; have HO234 := n2_; have HB := n3_; clear n0_ n1_ n2_ n3_; (try clear hb); (try clear hb2); (try clear hk); (try clear hi); (try clear ho0)) | (go_at_call 12; (with_reducible refine (ringworklaw25_awake.calls  t245 _ A66.out).mono ?_); rintro e w71 ⟨rfl, hb⟩; have n0_ := Aside0.mk (Kd.R_below (by (with_reducible repeat (first | apply Kd.R_alloc | apply Kd.R_drewN | apply Kd.R_drew)); exact HO221.out) hb); have n1_ := Aside0.mk (Kd.R_below (by (with_reducible repeat (first | apply Kd.R_alloc | apply Kd.R_drewN | apply Kd.R_drew)); exact HO226.out) hb); have n2_ := Aside0.mk (Kd.R_below (by (with_reducible repeat (first | apply Kd.R_alloc | apply Kd.R_drewN | apply Kd.R_drew)); exact HO234.out) hb); have n3_ := Aside0.mk (below_step (by repeat (first | (with_reducible first | exact HB.out | apply below_alloc | apply pw_below_drewN | apply below_drew1) | exact HB.out)) hb); clear HO221; clear HO226; clear HO234; clear HB; have HO221 := n0_; have HO226 := n1_; have HO234 := n2_; have HB := n3_; clear n0_ n1_ n2_ n3_; (try clear hb); (try clear hb2); (try clear hk); (try clear hi)))
                              go_ret
                              exact ⟨by first | rfl | (simp [errW_none, errW_some] <;> rfl) | (simp [*, errW_none, errW_some] <;> rfl), by repeat (first | (with_reducible first | exact HB.out | apply below_alloc | apply pw_below_drewN | apply below_drew1) | exact HB.out)⟩
                            · rw [if_neg c65] at H
                              have c65b0 : (t232 == 4) = false := beq_eq_false_iff_ne.mpr c65
                              have c65b1 : (t232 != 4) = true := bne_iff_ne.mpr c65
                              obtain rfl := Option.some.inj H
                              go_wp2_with (first | ((with_reducible refine gate_callee (f := 13) rfl ?_); refine goesL_ (some 52) rfl rfl Try.func13 (by kernel_rfl) rfl #[.slice A1 l1.length c1] rfl (by (try simp only [List.map_toArray, List.map_cons, List.map_nil]); first | done | rfl | (simp only [List.length_drop, List.length_take]; rfl)) ?_; (with_reducible refine (ringworkref25_Open.calls kj15 _ _ l1 t218 t219 _ ?side1 ?side2 A24.out).mono ?_); (case side1 => repeat (first | exact (Kd.C_below HR1.out HB.out) | (with_reducible refine Kd.C_alloc ?_ _) | (with_reducible refine Kd.C_drewN ?_ _) | (with_reducible refine Kd.C_drew ?_))); (case side2 => exact HC1.out); rintro e w72 ⟨v220, rfl, ho0, hb⟩; refine ⟨_, rfl, ?_⟩; have n0_ := Aside0.mk (Kd.R_lower ho0 (below_size (by repeat (first | (with_reducible first | exact HB.out | apply below_alloc | apply pw_below_drewN | apply below_drew1) | exact HB.out)))); have n1_ := Aside0.mk (below_step (by repeat (first | (with_reducible first | exact HB.out | apply below_alloc | apply pw_below_drewN | apply below_drew1) | exact HB.out)) hb); clear HB; have HO221 := n0_; have HB := n1_; clear n0_ n1_; (try clear hb); (try clear hb2); (try clear hk); (try clear hi); (try clear ho0)) | ((with_reducible refine gate_callee (f := 14) rfl ?_); refine goesL_ (some 61) rfl rfl Try.func14 (by kernel_rfl) rfl #[.slice A0 l0.length c0, .slice A1 l1.length c1] rfl (by (try simp only [List.map_toArray, List.map_cons, List.map_nil]); first | done | rfl | (simp only [List.length_drop, List.length_take]; rfl)) ?_; (with_reducible refine (journal_State.calls _ _ l0 _ _ l1 t223 t224 _ ?side1 ?side2 ?side3 ?side4 A26.out).mono ?_); (case side1 => repeat (first | exact (Kd.C_below HR0.out HB.out) | (with_reducible refine Kd.C_alloc ?_ _) | (with_reducible refine Kd.C_drewN ?_ _) | (with_reducible refine Kd.C_drew ?_))); (case side2 => exact HC0.out); (case side3 => repeat (first | exact (Kd.C_below HR1.out HB.out) | (with_reducible refine Kd.C_alloc ?_ _) | (with_reducible refine Kd.C_drewN ?_ _) | (with_reducible refine Kd.C_drew ?_))); (case side4 => exact HC1.out); rintro e w73 ⟨v225, rfl, ho0, hb⟩; refine ⟨_, rfl, ?_⟩; have n0_ := Aside0.mk (Kd.R_below (by (with_reducible repeat (first | apply Kd.R_alloc | apply Kd.R_drewN | apply Kd.R_drew)); exact HO221.out) hb); have n1_ := Aside0.mk (Kd.R_lower ho0 (below_size (by repeat (first | (with_reducible first | exact HB.out | apply below_alloc | apply pw_below_drewN | apply below_drew1) | exact HB.out)))); have n2_ := Aside0.mk (below_step (by repeat (first | (with_reducible first | exact HB.out | apply below_alloc | apply pw_below_drewN | apply below_drew1) | exact HB.out)) hb); clear HO221; clear HB; have HO221 := n0_; have HO226 := n1_; have HB := n2_; clear n0_ n1_ n2_; (try clear hb); (try clear hb2); (try clear hk); (try clear hi); (try clear ho0); have q74 : (a2 : Int) ≤ ((l1.length : Int) : Int) := of_decide_eq_true (by first | (with_reducible assumption) | assumption); obtain ⟨i074, hi074, _, hsz74, _⟩ := info_parts info39; have hroom74 : l1.length ≤ c1 := HC1.out; have hC74 : Kd.C k39 _ A1 l1.length l1 := HR1.out; (try clear hcut17); (try clear hcut40); (try clear hcut42); (try clear hcut50); (try clear hcut52); (try clear hcut59); (try clear hcut61); (try clear hcut69); have hcut74 := cut_to (P := Try.prog) 23 39 .i64 Try.underlying23 hi074 A1 l1.length c1 a2 (of_decide_eq_true (by first | (with_reducible assumption) | assumption)) q74 hroom74; have hr74 := Kd.C_take (m := (a2 : Int).toNat) hC74 (by omega); have hy74 : y227.length = (a2 : Int).toNat := (by rw [Ny227.out, List.length_take]; omega); rw [← Ny227.out] at hr74; rw [← hy74] at hcut74; have HR230 := Aside0.mk hr74; have HC230 := Aside0.mk (show y227.length ≤ c1 from by omega); clear hr74 hC74 hroom74 hi074 hsz74; have KY74 := Aside0.mk hy74; clear hy74; replace q74 := eq_true q74) | ((with_reducible refine gate_callee (f := 14) rfl ?_); refine goesL_ (some 69) rfl rfl Try.func14 (by kernel_rfl) rfl #[.slice A0 l0.length c0, .slice A1 y227.length c1] rfl (by (try simp only [List.map_toArray, List.map_cons, List.map_nil]); first | done | rfl | (simp only [List.length_drop, List.length_take]; rfl)) ?_; (with_reducible refine (journal_State.calls _ _ l0 _ _ y227 t231 t232 _ ?side1 ?side2 ?side3 ?side4 A29.out).mono ?_); (case side1 => repeat (first | exact (Kd.C_below HR0.out HB.out) | (with_reducible refine Kd.C_alloc ?_ _) | (with_reducible refine Kd.C_drewN ?_ _) | (with_reducible refine Kd.C_drew ?_))); (case side2 => exact HC0.out); (case side3 => repeat (first | exact (Kd.C_below HR230.out HB.out) | (with_reducible refine Kd.C_alloc ?_ _) | (with_reducible refine Kd.C_drewN ?_ _) | (with_reducible refine Kd.C_drew ?_))); (case side4 => exact HC230.out); rintro e w75 ⟨v233, rfl, ho0, hb⟩; refine ⟨_, rfl, ?_⟩; have n0_ := Aside0.mk (Kd.R_below (by (with_reducible repeat (first | apply Kd.R_alloc | apply Kd.R_drewN | apply Kd.R_drew)); exact HO221.out) hb); have n1_ := Aside0.mk (Kd.R_elder' (by (with_reducible repeat (first | apply Kd.R_alloc | apply Kd.R_drewN | apply Kd.R_drew)); exact HO226.out) (Kd.R_base ho0) hb); have n2_ := Aside0.mk (Kd.R_lower (Kd.R_new' ho0 (Kd.R_lt (by (with_reducible repeat (first | apply Kd.R_alloc | apply Kd.R_drewN | apply Kd.R_drew)); exact HO226.out))) (below_size (by repeat (first | (with_reducible first | exact HB.out | apply below_alloc | apply pw_below_drewN | apply below_drew1) | exact HB.out)))); have n3_ := Aside0.mk (below_step (by repeat (first | (with_reducible first | exact HB.out | apply below_alloc | apply pw_below_drewN | apply below_drew1) | exact HB.out)) hb); clear HO221; clear HO226; clear HB; have HO221 := n0_; have HO226 := n1_; have HO234 := n2_; have HB := n3_; clear n0_ n1_ n2_ n3_; (try clear hb); (try clear hb2); (try clear hk); (try clear hi); (try clear ho0)))
                              go_ret
                              exact ⟨by first | rfl | (simp [errW_none, errW_some] <;> rfl) | (simp [*, errW_none, errW_some] <;> rfl), by repeat (first | (with_reducible first | exact HB.out | apply below_alloc | apply pw_below_drewN | apply below_drew1) | exact HB.out)⟩
                          · rw [if_neg c64] at H
                            have c64b0 : (t224 == 0) = false := beq_eq_false_iff_ne.mpr c64
                            have c64b1 : (t224 != 0) = true := bne_iff_ne.mpr c64
                            replace H := Option.bind_eq_some_iff.mp H
                            obtain ⟨t246, A760, H⟩ := H
                            replace H : (some t246) = some r := H
                            have A76 := Aside0.mk A760
                            clear A760
                            obtain rfl := Option.some.inj H
                            go_wp2_with (first | ((with_reducible refine gate_callee (f := 13) rfl ?_); refine goesL_ (some 52) rfl rfl Try.func13 (by kernel_rfl) rfl #[.slice A1 l1.length c1] rfl (by (try simp only [List.map_toArray, List.map_cons, List.map_nil]); first | done | rfl | (simp only [List.length_drop, List.length_take]; rfl)) ?_; (with_reducible refine (ringworkref25_Open.calls kj15 _ _ l1 t218 t219 _ ?side1 ?side2 A24.out).mono ?_); (case side1 => repeat (first | exact (Kd.C_below HR1.out HB.out) | (with_reducible refine Kd.C_alloc ?_ _) | (with_reducible refine Kd.C_drewN ?_ _) | (with_reducible refine Kd.C_drew ?_))); (case side2 => exact HC1.out); rintro e w77 ⟨v220, rfl, ho0, hb⟩; refine ⟨_, rfl, ?_⟩; have n0_ := Aside0.mk (Kd.R_lower ho0 (below_size (by repeat (first | (with_reducible first | exact HB.out | apply below_alloc | apply pw_below_drewN | apply below_drew1) | exact HB.out)))); have n1_ := Aside0.mk (below_step (by repeat (first | (with_reducible first | exact HB.out | apply below_alloc | apply pw_below_drewN | apply below_drew1) | exact HB.out)) hb); clear HB; have HO221 := n0_; have HB := n1_; clear n0_ n1_; (try clear hb); (try clear hb2); (try clear hk); (try clear hi); (try clear ho0)) | ((with_reducible refine gate_callee (f := 14) rfl ?_); refine goesL_ (some 61) rfl rfl Try.func14 (by kernel_rfl) rfl #[.slice A0 l0.length c0, .slice A1 l1.length c1] rfl (by (try simp only [List.map_toArray, List.map_cons, List.map_nil]); first | done | rfl | (simp only [List.length_drop, List.length_take]; rfl)) ?_; (with_reducible refine (journal_State.calls _ _ l0 _ _ l1 t223 t224 _ ?side1 ?side2 ?side3 ?side4 A26.out).mono ?_); (case side1 => repeat (first | exact (Kd.C_below HR0.out HB.out) | (with_reducible refine Kd.C_alloc ?_ _) | (with_reducible refine Kd.C_drewN ?_ _) | (with_reducible refine Kd.C_drew ?_))); (case side2 => exact HC0.out); (case side3 => repeat (first | exact (Kd.C_below HR1.out HB.out) | (with_reducible refine Kd.C_alloc ?_ _) | (with_reducible refine Kd.C_drewN ?_ _) | (with_reducible refine Kd.C_drew ?_))); (case side4 => exact HC1.out); rintro e w78 ⟨v225, rfl, ho0, hb⟩; refine ⟨_, rfl, ?_⟩; have n0_ := Aside0.mk (Kd.R_below (by (with_reducible repeat (first | apply Kd.R_alloc | apply Kd.R_drewN | apply Kd.R_drew)); exact HO221.out) hb); have n1_ := Aside0.mk (Kd.R_lower ho0 (below_size (by repeat (first | (with_reducible first | exact HB.out | apply below_alloc | apply pw_below_drewN | apply below_drew1) | exact HB.out)))); have n2_ := Aside0.mk (below_step (by repeat (first | (with_reducible first | exact HB.out | apply below_alloc | apply pw_below_drewN | apply below_drew1) | exact HB.out)) hb); clear HO221; clear HB; have HO221 := n0_; have HO226 := n1_; have HB := n2_; clear n0_ n1_ n2_; (try clear hb); (try clear hb2); (try clear hk); (try clear hi); (try clear ho0); have q79 : (a2 : Int) ≤ ((l1.length : Int) : Int) := of_decide_eq_true (by first | (with_reducible assumption) | assumption); obtain ⟨i079, hi079, _, hsz79, _⟩ := info_parts info39; have hroom79 : l1.length ≤ c1 := HC1.out; have hC79 : Kd.C k39 _ A1 l1.length l1 := HR1.out; (try clear hcut17); (try clear hcut40); (try clear hcut42); (try clear hcut50); (try clear hcut52); (try clear hcut59); (try clear hcut61); (try clear hcut69); (try clear hcut74); have hcut79 := cut_to (P := Try.prog) 23 39 .i64 Try.underlying23 hi079 A1 l1.length c1 a2 (of_decide_eq_true (by first | (with_reducible assumption) | assumption)) q79 hroom79; have hr79 := Kd.C_take (m := (a2 : Int).toNat) hC79 (by omega); have hy79 : y227.length = (a2 : Int).toNat := (by rw [Ny227.out, List.length_take]; omega); rw [← Ny227.out] at hr79; rw [← hy79] at hcut79; have HR230 := Aside0.mk hr79; have HC230 := Aside0.mk (show y227.length ≤ c1 from by omega); clear hr79 hC79 hroom79 hi079 hsz79; have KY79 := Aside0.mk hy79; clear hy79; replace q79 := eq_true q79) | ((with_reducible refine gate_callee (f := 14) rfl ?_); refine goesL_ (some 69) rfl rfl Try.func14 (by kernel_rfl) rfl #[.slice A0 l0.length c0, .slice A1 y227.length c1] rfl (by (try simp only [List.map_toArray, List.map_cons, List.map_nil]); first | done | rfl | (simp only [List.length_drop, List.length_take]; rfl)) ?_; (with_reducible refine (journal_State.calls _ _ l0 _ _ y227 t231 t232 _ ?side1 ?side2 ?side3 ?side4 A29.out).mono ?_); (case side1 => repeat (first | exact (Kd.C_below HR0.out HB.out) | (with_reducible refine Kd.C_alloc ?_ _) | (with_reducible refine Kd.C_drewN ?_ _) | (with_reducible refine Kd.C_drew ?_))); (case side2 => exact HC0.out); (case side3 => repeat (first | exact (Kd.C_below HR230.out HB.out) | (with_reducible refine Kd.C_alloc ?_ _) | (with_reducible refine Kd.C_drewN ?_ _) | (with_reducible refine Kd.C_drew ?_))); (case side4 => exact HC230.out); rintro e w80 ⟨v233, rfl, ho0, hb⟩; refine ⟨_, rfl, ?_⟩; have n0_ := Aside0.mk (Kd.R_below (by (with_reducible repeat (first | apply Kd.R_alloc | apply Kd.R_drewN | apply Kd.R_drew)); exact HO221.out) hb); have n1_ := Aside0.mk (Kd.R_elder' (by (with_reducible repeat (first | apply Kd.R_alloc | apply Kd.R_drewN | apply Kd.R_drew)); exact HO226.out) (Kd.R_base ho0) hb); have n2_ := Aside0.mk (Kd.R_lower (Kd.R_new' ho0 (Kd.R_lt (by (with_reducible repeat (first | apply Kd.R_alloc | apply Kd.R_drewN | apply Kd.R_drew)); exact HO226.out))) (below_size (by repeat (first | (with_reducible first | exact HB.out | apply below_alloc | apply pw_below_drewN | apply below_drew1) | exact HB.out)))); have n3_ := Aside0.mk (below_step (by repeat (first | (with_reducible first | exact HB.out | apply below_alloc | apply pw_below_drewN | apply below_drew1) | exact HB.out)) hb); clear HO221; clear HO226; clear HB; have HO221 := n0_; have HO226 := n1_; have HO234 := n2_; have HB := n3_; clear n0_ n1_ n2_ n3_; (try clear hb); (try clear hb2); (try clear hk); (try clear hi); (try clear ho0)) | (go_at_call 12; (with_reducible refine (ringworklaw25_awake.calls  t246 _ A76.out).mono ?_); rintro e w81 ⟨rfl, hb⟩; have n0_ := Aside0.mk (Kd.R_below (by (with_reducible repeat (first | apply Kd.R_alloc | apply Kd.R_drewN | apply Kd.R_drew)); exact HO221.out) hb); have n1_ := Aside0.mk (Kd.R_below (by (with_reducible repeat (first | apply Kd.R_alloc | apply Kd.R_drewN | apply Kd.R_drew)); exact HO226.out) hb); have n2_ := Aside0.mk (Kd.R_below (by (with_reducible repeat (first | apply Kd.R_alloc | apply Kd.R_drewN | apply Kd.R_drew)); exact HO234.out) hb); have n3_ := Aside0.mk (below_step (by repeat (first | (with_reducible first | exact HB.out | apply below_alloc | apply pw_below_drewN | apply below_drew1) | exact HB.out)) hb); clear HO221; clear HO226; clear HO234; clear HB; have HO221 := n0_; have HO226 := n1_; have HO234 := n2_; have HB := n3_; clear n0_ n1_ n2_ n3_; (try clear hb); (try clear hb2); (try clear hk); (try clear hi)))
                            go_ret
                            exact ⟨by first | rfl | (simp [errW_none, errW_some] <;> rfl) | (simp [*, errW_none, errW_some] <;> rfl), by repeat (first | (with_reducible first | exact HB.out | apply below_alloc | apply pw_below_drewN | apply below_drew1) | exact HB.out)⟩
                      · rw [if_neg c28] at H
                        exact absurd H (by simp)
                    · rw [if_neg c27] at H
                      exact absurd H (by simp)
                  · rw [if_neg c25] at H
                    have c25b0 : (t219 == 0) = false := beq_eq_false_iff_ne.mpr c25
                    have c25b1 : (t219 != 0) = true := bne_iff_ne.mpr c25
                    replace H := Option.bind_eq_some_iff.mp H
                    obtain ⟨t222, A820, H⟩ := H
                    replace H : (some t222) = some r := H
                    have A82 := Aside0.mk A820
                    clear A820
                    obtain rfl := Option.some.inj H
                    go_wp2_with (first | ((with_reducible refine gate_callee (f := 13) rfl ?_); refine goesL_ (some 52) rfl rfl Try.func13 (by kernel_rfl) rfl #[.slice A1 l1.length c1] rfl (by (try simp only [List.map_toArray, List.map_cons, List.map_nil]); first | done | rfl | (simp only [List.length_drop, List.length_take]; rfl)) ?_; (with_reducible refine (ringworkref25_Open.calls kj15 _ _ l1 t218 t219 _ ?side1 ?side2 A24.out).mono ?_); (case side1 => repeat (first | exact (Kd.C_below HR1.out HB.out) | (with_reducible refine Kd.C_alloc ?_ _) | (with_reducible refine Kd.C_drewN ?_ _) | (with_reducible refine Kd.C_drew ?_))); (case side2 => exact HC1.out); rintro e w83 ⟨v220, rfl, ho0, hb⟩; refine ⟨_, rfl, ?_⟩; have n0_ := Aside0.mk (Kd.R_lower ho0 (below_size (by repeat (first | (with_reducible first | exact HB.out | apply below_alloc | apply pw_below_drewN | apply below_drew1) | exact HB.out)))); have n1_ := Aside0.mk (below_step (by repeat (first | (with_reducible first | exact HB.out | apply below_alloc | apply pw_below_drewN | apply below_drew1) | exact HB.out)) hb); clear HB; have HO221 := n0_; have HB := n1_; clear n0_ n1_; (try clear hb); (try clear hb2); (try clear hk); (try clear hi); (try clear ho0)) | ((with_reducible refine gate_callee (f := 12) rfl ?_); refine goesL_ (some 57) rfl rfl Try.func12 (by kernel_rfl) rfl #[] rfl (by (try simp only [List.map_toArray, List.map_cons, List.map_nil]); first | done | rfl | (simp only [List.length_drop, List.length_take]; rfl)) ?_; (with_reducible refine (ringworklaw25_awake.calls  t222 _ A82.out).mono ?_); rintro e w84 ⟨rfl, hb⟩; refine ⟨_, rfl, ?_⟩; have n0_ := Aside0.mk (Kd.R_below (by (with_reducible repeat (first | apply Kd.R_alloc | apply Kd.R_drewN | apply Kd.R_drew)); exact HO221.out) hb); have n1_ := Aside0.mk (below_step (by repeat (first | (with_reducible first | exact HB.out | apply below_alloc | apply pw_below_drewN | apply below_drew1) | exact HB.out)) hb); clear HO221; clear HB; have HO221 := n0_; have HB := n1_; clear n0_ n1_; (try clear hb); (try clear hb2); (try clear hk); (try clear hi)))
                    go_ret
                    exact ⟨by first | rfl | (simp [errW_none, errW_some] <;> rfl) | (simp [*, errW_none, errW_some] <;> rfl), by repeat (first | (with_reducible first | exact HB.out | apply below_alloc | apply pw_below_drewN | apply below_drew1) | exact HB.out)⟩
          · rw [if_neg c14] at H
            exact absurd H (by simp)
        · rw [if_neg c13] at H
          exact absurd H (by simp)

end Go.Proofs.Yteblpjnkinghoaa.J
/- The laws' guards, and State. -/
namespace Go.Proofs.Yteblpjnkinghoaa.J
open Go.RowKit Go.Proofs.YteblpjnkinghoaaW.PrintWords
theorem notes_guard_from (l : List S39) (hl : l.length ≤ 9223372036854775807) : ∀ (d i : Nat), d = 60 - i → i ≤ 60 → ∀ s : Int, ∃ b, Ev (fun k => ringworklaw25_Notes.l0 k l s (i : Int)) b ∧ (b = true → l.length ≤ 60) := by
  intro d
  induction d with
  | zero =>
    intro i hd hi s
    have : i = 60 := by omega
    subst this
    by_cases hn : (l.length : Int) ≤ 60
    · exact ⟨_, Ev.step (fun k => by rw [ringworklaw25_Notes.l0, if_neg (by omega), if_pos hn]) (Ev.val (decide (s ≤ 6000))), fun _ => by omega⟩
    · exact ⟨false, Ev.step (fun k => by rw [ringworklaw25_Notes.l0, if_pos (by omega), if_neg (by decide), if_neg hn]) (Ev.val false), fun h => by cases h⟩
  | succ d ih =>
    intro i hd hi s
    by_cases hlt : i < l.length
    · obtain ⟨b, hb, hbb⟩ := ih (i + 1) (by omega) (by omega) (wrap64 ((wrap64 (s + (((rd_T39 l (i : Int)).f2).size : Int))) + (((rd_T39 l (i : Int)).f4).size : Int)))
      refine ⟨b, Ev.step (fun k => by rw [ringworklaw25_Notes.l0, if_pos (by omega), if_pos (by omega), if_pos (by omega), wrap_next' hlt hl]) hb, hbb⟩
    · exact ⟨_, Ev.step (fun k => by rw [ringworklaw25_Notes.l0, if_neg (by omega), if_pos (by omega)]) (Ev.val (decide (s ≤ 6000))), fun _ => by omega⟩
theorem notes_guard (l : List S39) (hl : l.length ≤ 9223372036854775807) : ∃ b, Ev (fun k => ringworklaw25_Notes.f k l) b ∧ (b = true → l.length ≤ 60) := notes_guard_from l hl 60 0 rfl (by omega) 0
theorem images_guard_from (l : List S41) (hl : l.length ≤ 9223372036854775807) : ∀ (d i : Nat), d = 60 - i → i ≤ 60 → ∀ s : Int, ∃ b, Ev (fun k => ringworklaw25_Images.l0 k l s (i : Int)) b ∧ (b = true → l.length ≤ 60) := by
  intro d
  induction d with
  | zero =>
    intro i hd hi s
    have : i = 60 := by omega
    subst this
    by_cases hn : (l.length : Int) ≤ 60
    · exact ⟨_, Ev.step (fun k => by rw [ringworklaw25_Images.l0, if_neg (by omega), if_pos hn]) (Ev.val (decide (s ≤ 6000))), fun _ => by omega⟩
    · exact ⟨false, Ev.step (fun k => by rw [ringworklaw25_Images.l0, if_pos (by omega), if_neg (by decide), if_neg hn]) (Ev.val false), fun h => by cases h⟩
  | succ d ih =>
    intro i hd hi s
    by_cases hlt : i < l.length
    · obtain ⟨b, hb, hbb⟩ := ih (i + 1) (by omega) (by omega) (wrap64 ((wrap64 (s + (((rd_T41 l (i : Int)).f0).size : Int))) + (((rd_T41 l (i : Int)).f2).size : Int)))
      refine ⟨b, Ev.step (fun k => by rw [ringworklaw25_Images.l0, if_pos (by omega), if_pos (by omega), if_pos (by omega), wrap_next hlt hl]) hb, hbb⟩
    · exact ⟨_, Ev.step (fun k => by rw [ringworklaw25_Images.l0, if_neg (by omega), if_pos (by omega)]) (Ev.val (decide (s ≤ 6000))), fun _ => by omega⟩
theorem images_guard (l : List S41) (hl : l.length ≤ 9223372036854775807) : ∃ b, Ev (fun k => ringworklaw25_Images.f k l) b ∧ (b = true → l.length ≤ 60) := images_guard_from l hl 60 0 rfl (by omega) 0
theorem awake_true : ringworklaw25_awake.f = some true := by kernel_rfl
end Go.Proofs.Yteblpjnkinghoaa.J
/- A state as what lies at each key. -/
namespace Go.Proofs.Yteblpjnkinghoaa.J
open Go.RowKit
/-- What lies at a key. -/
def look (l : List S41) (k : ByteArray) : Option S41 := l.find? fun y => decide (y.f0 = k)
theorem look_cons (x : S41) (l : List S41) (k : ByteArray) : look (x :: l) k = if x.f0 = k then some x else look l k := by
  unfold look; rw [List.find?_cons]
  by_cases h : x.f0 = k
  · rw [if_pos h, decide_eq_true h]
  · rw [if_neg h, decide_eq_false h]
theorem look_none {l : List S41} {k : ByteArray} (h : ∀ y ∈ l, y.f0 ≠ k) : look l k = none := by
  unfold look; rw [List.find?_eq_none]; intro y hy; simpa using h y hy
theorem look_append (a b : List S41) (k : ByteArray) : look (a ++ b) k = (look a k).or (look b k) := by
  unfold look; rw [List.find?_append]
theorem kless_ne {a b : ByteArray} (h : kless a b = true) : a ≠ b := fun e => by rw [e, kless_irr] at h; cases h
theorem look_apStep {cur : List S41} (hs : Sorted cur) (x : S41) (k : ByteArray) : look (apStep cur x) k = if k = x.f0 then (if x.f1 = true then some x else none) else look cur k := by
  have hs' : Sorted (cur.takeWhile (fun y => kless y.f0 x.f0) ++ cur.dropWhile (fun y => kless y.f0 x.f0)) := by rw [List.takeWhile_append_dropWhile]; exact hs
  obtain ⟨h1, h2, h3⟩ := List.pairwise_append.1 hs'
  obtain ⟨h4, h5⟩ := rest_sorted (x := x) h2 (dw_head _ _)
  have h6 := tw_all (fun y => kless y.f0 x.f0) cur
  have hc : look cur k = (look (cur.takeWhile (fun y => kless y.f0 x.f0)) k).or (look (cur.dropWhile (fun y => kless y.f0 x.f0)) k) := by
    rw [← look_append, List.takeWhile_append_dropWhile]
  unfold apStep
  rw [look_append, look_append]
  by_cases hk : k = x.f0
  · subst hk
    rw [if_pos rfl, look_none (l := cur.takeWhile _) (fun z hz => kless_ne (h6 z hz)), look_none (l := apRest x _) (fun z hz => (kless_ne (h5 z hz)).symm)]
    split
    · rw [look_cons, if_pos rfl]; rfl
    · rfl
  · rw [if_neg hk, hc]
    have e1 : look (if x.f1 = true then [x] else []) k = none := by
      split
      · rw [look_cons, if_neg (Ne.symm hk)]; rfl
      · rfl
    have e2 : look (apRest x (cur.dropWhile (fun y => kless y.f0 x.f0))) k = look (cur.dropWhile (fun y => kless y.f0 x.f0)) k := by
      cases cur.dropWhile (fun y => kless y.f0 x.f0) with
      | nil => rfl
      | cons y r =>
        rw [apRest_cons]
        split
        · rename_i he; rw [look_cons, if_neg (by rw [he]; exact Ne.symm hk)]
        · rfl
    rw [e1, e2, Option.or_none]
/-- The last image of a key. -/
def lastOf : List S41 → ByteArray → Option S41
  | [], _ => none
  | x :: a, k => match lastOf a k with
    | some y => some y
    | none => if x.f0 = k then some x else none
/-- What lies at a key after images. -/
def after (o : Option S41) (d : Option S41) : Option S41 := match o with
  | some x => if x.f1 = true then some x else none
  | none => d
theorem fold_look : ∀ (a s : List S41), Sorted s → Sorted (a.foldl apStep s) ∧ ∀ k, look (a.foldl apStep s) k = after (lastOf a k) (look s k)
  | [], s, hs => ⟨hs, fun _ => rfl⟩
  | x :: a, s, hs => by
    obtain ⟨h1, h2⟩ := fold_look a (apStep s x) (apStep_sorted hs x)
    refine ⟨h1, fun k => ?_⟩
    rw [List.foldl_cons, h2, lastOf]
    cases lastOf a k with
    | some y => rfl
    | none =>
      show look (apStep s x) k = _
      rw [look_apStep hs]
      by_cases hk : k = x.f0
      · rw [if_pos hk, if_pos hk.symm]; rfl
      · rw [if_neg hk, if_neg (Ne.symm hk)]; rfl
theorem apStep_mem {cur : List S41} {x y : S41} (h : y ∈ apStep cur x) : y ∈ cur ∨ (y = x ∧ x.f1 = true) := by
  unfold apStep at h
  rcases List.mem_append.1 h with h | h
  · rcases List.mem_append.1 h with h | h
    · exact .inl (List.takeWhile_subset _ h)
    · split at h
      · rename_i hf; exact .inr ⟨by simpa using h, hf⟩
      · cases h
  · exact .inl (List.dropWhile_subset _ (rest_sub x _ y h))
theorem fold_all (P : S41 → Prop) : ∀ (a s : List S41), (∀ y ∈ s, P y) → (∀ x ∈ a, x.f1 = true → P x) → ∀ y ∈ a.foldl apStep s, P y
  | [], _, h, _ => h
  | x :: a, s, h, h2 => fold_all P a (apStep s x) (fun y hy => by
      rcases apStep_mem hy with hy | ⟨rfl, hf⟩
      · exact h y hy
      · exact h2 _ (List.mem_cons_self) hf) (fun z hz => h2 z (List.mem_cons_of_mem _ hz))
theorem ordV_iff (l : List S41) : ordV l = true ↔ Sorted l ∧ (∀ y ∈ l, img y = true ∧ y.f1 = true) ∧ l.length ≤ 500 := by
  unfold ordV
  rw [Bool.and_eq_true, decide_eq_true_eq]
  constructor
  · rintro ⟨h, hl⟩
    refine ⟨good_sorted h, fun y hy => ?_, hl⟩
    obtain ⟨k, hk, rfl⟩ := List.getElem_of_mem hy
    have := List.all_eq_true.1 h k (List.mem_range.2 hk)
    unfold goodAt at this
    rw [rd_mem hk] at this
    simp only [Bool.and_eq_true] at this
    exact this.1
  · rintro ⟨hs, ha, hl⟩
    refine ⟨List.all_eq_true.2 fun k hk => ?_, hl⟩
    have hk := List.mem_range.1 hk
    have := ha _ (List.getElem_mem hk)
    unfold goodAt
    rw [rd_mem hk, this.1, this.2]
    cases k with
    | zero => rfl
    | succ k =>
      rw [show ((k + 1 : Nat) : Int) - 1 = (k : Int) by omega, rd_mem (by omega)]
      have := List.pairwise_iff_getElem.1 hs k (k + 1) (by omega) hk (by omega)
      simp only [Bool.true_and, Bool.or_eq_true]
      exact .inr this
/-- P25.5: what Apply gives is a state, and applying once more changes nothing. -/
theorem apply_once {s a r : List S41} (h : journal_Apply.f s a = some (r, 0)) : ordV s = true ∧ a.all img = true ∧ r = a.foldl apStep s ∧ ordV r = true ∧ a.length ≤ 900000 := by
  unfold journal_Apply.f at h
  split at h
  · rename_i hl
    split at h
    · rename_i hv
      split at h
      · cases h
      · rename_i h5
        cases h
        obtain ⟨h1, h2, _⟩ := (ordV_iff s).1 hv.1
        refine ⟨hv.1, hv.2, rfl, (ordV_iff _).2 ⟨(fold_look a s h1).1, fold_all (fun y => img y = true ∧ y.f1 = true) a s h2 (fun x hx hf => ⟨List.all_eq_true.1 hv.2 x hx, hf⟩), by omega⟩, hl⟩
    · cases h
  · cases h
end Go.Proofs.Yteblpjnkinghoaa.J
/- A journal cut in two where no unit goes on: its rest is right by itself, and its afters that count are those of the two parts. -/
namespace Go.Proofs.Yteblpjnkinghoaa.J
open Go.RowKit Go.Proofs.YteblpjnkinghoaaW.PrintWords
theorem c_cut (u : Int) (s : List S39) : ∀ (q p : List S39), (sinceV p u).2 = true → (sinceV (p ++ q) u).2 = false → cR u (q ++ s) = cR u q
  | [], p, h1, h2 => by rw [List.append_nil, h1] at h2; cases h2
  | n :: q, p, h1, h2 => by
    rw [List.cons_append, cR, cR]
    have hn : ∀ (h : n.f1 = u → ¬ (n.f0 = 4 ∨ n.f0 = 5) ∧ ¬ n.f0 = 7), cR u (q ++ s) = cR u q := fun h => by
      refine c_cut u s q (p ++ [n]) ?_ (by rw [List.append_assoc]; exact h2)
      by_cases hu : n.f1 = u
      · obtain ⟨h4, h7⟩ := h hu
        rw [since_snoc]
        unfold sinceStep
        rw [if_pos hu]
        split
        · exact h1
        · split
          · rfl
          · rw [if_neg (by omega)]; exact h1
      · rw [since_snoc_other hu]; exact h1
    by_cases hu : n.f1 = u
    · rw [if_pos hu, if_pos hu]
      by_cases h4 : n.f0 = 4 ∨ n.f0 = 5
      · rw [if_pos h4, if_pos h4]
      · rw [if_neg h4, if_neg h4]
        by_cases h7 : n.f0 = 7
        · rw [if_pos h7, if_pos h7]
        · rw [if_neg h7, if_neg h7]; exact hn fun _ => ⟨h4, h7⟩
    · rw [if_neg hu, if_neg hu]; exact hn fun h => absurd h hu
theorem redoR_cut (s : List S39) : ∀ (q p : List S39), RightFrom p q → (∀ u, (sinceV (p ++ q) u).2 = false) → redoR (q ++ s) = redoR q ++ redoR s
  | [], _, _, _ => rfl
  | n :: q, p, h, ho => by
    have ih := redoR_cut s q (p ++ [n]) h.2 (fun u => by rw [List.append_assoc]; exact ho u)
    rw [List.cons_append, redoR, redoR, ih]
    by_cases h3 : n.f0 = 3
    · have hon : (sinceV p n.f1).2 = true := by
        have := h.1
        unfold wrongR at this
        rw [if_neg (by omega)] at this
        cases hs : (sinceV p n.f1).2
        · rw [hs, if_pos (decide_eq_false (by omega)).symm] at this; cases this
        · rfl
      have hon2 : (sinceV (p ++ [n]) n.f1).2 = true := by
        rw [since_snoc]; unfold sinceStep
        rw [if_pos rfl, if_neg (by omega), if_neg (by omega), if_neg (by omega)]; exact hon
      rw [c_cut n.f1 s q (p ++ [n]) hon2 (by rw [List.append_assoc]; exact ho _)]
      split <;> rfl
    · rw [if_neg (fun hh => h3 hh.1), if_neg (fun hh => h3 hh.1)]
theorem plain_unit {n : S39} (hv : vld n = true) (hf : n.f0 = 1 ∨ n.f0 = 4) : 1 ≤ n.f1 ∧ n.f1 ≤ 1000 := by
  unfold vld journal_Valid.f at hv
  rw [if_neg (by omega), if_neg (by omega), if_neg (by omega), if_neg (by omega)] at hv
  unfold journal_plain.f journal_unit.f at hv
  by_cases a1 : 1 ≤ n.f1 <;> by_cases a2 : n.f1 ≤ 1000 <;> simp [a1, a2] at hv ⊢
theorem since_unit (u : Int) : ∀ (l : List S39) (i : Nat) (st : Int × Bool), (st.2 = true → 1 ≤ u ∧ u ≤ 1000) → (∀ n ∈ l, vld n = true) → (sinceFrom u l i st).2 = true → 1 ≤ u ∧ u ≤ 1000
  | [], i, st, h1, _, h => h1 h
  | n :: l, i, st, h1, h2, h => by
    rw [sinceFrom] at h
    refine since_unit u l (i + 1) _ (fun hs => ?_) (fun m hm => h2 m (List.mem_cons_of_mem _ hm)) h
    unfold sinceStep at hs
    by_cases hu : n.f1 = u
    · rw [if_pos hu] at hs
      by_cases h6 : n.f0 = 6
      · rw [if_pos h6] at hs; exact h1 hs
      · rw [if_neg h6] at hs
        by_cases hq : n.f0 = 1 ∨ n.f0 = 4
        · have := plain_unit (h2 n List.mem_cons_self) hq
          rw [hu] at this; exact this
        · rw [if_neg hq] at hs
          by_cases h5 : n.f0 = 5 ∨ n.f0 = 7
          · rw [if_pos h5] at hs; cases hs
          · rw [if_neg h5] at hs; exact h1 hs
    · rw [if_neg hu] at hs; exact h1 hs
theorem off_all {p : List S39} (hv : ∀ n ∈ p, vld n = true) (h : ∀ u : Int, 1 ≤ u → u ≤ 1000 → (sinceV p u).2 = false) (u : Int) : (sinceV p u).2 = false := by
  cases hs : (sinceV p u).2 with
  | false => rfl
  | true =>
    have := since_unit u p 0 (0, false) (fun h => by cases h) hv hs
    rw [h u this.1 this.2] at hs; cases hs
theorem winv_off {p : List S39} {st : WSt} (hI : WInv p st) (ho : ∀ u, (sinceV p u).2 = false) : st = ⟨fun _ => none, fun _ => none⟩ := by
  obtain ⟨on, tk⟩ := st
  have h1 : on = fun _ => none := funext fun u => by
    have := hI.on u
    rw [ho u] at this
    exact Option.not_isSome_iff_eq_none.1 (by rw [show (on u).isSome = false from this]; decide)
  have h2 : tk = fun _ => none := funext fun key => by
    cases hk : tk key with
    | none => rfl
    | some o =>
      have := touched_on ((hI.tk key o).1 hk)
      rw [ho o] at this; cases this
  rw [h1, h2]
theorem wrong_at : ∀ (l : List S39) (i j : Nat) (st : WSt), (wrongFrom l i st).2 = (wrongFrom l j st).2
  | [], _, _, _ => rfl
  | n :: l, i, j, st => by
    rw [wrongFrom, wrongFrom]
    cases wrongStep st n with
    | inl e => rfl
    | inr st' => exact wrong_at l (i + 1) (j + 1) st'
theorem wrong_cut (s : List S39) : ∀ (q p : List S39) (i : Nat) (st : WSt), WInv p st → (wrongFrom (q ++ s) i st).2 = 0 → ∃ st' j, WInv (p ++ q) st' ∧ (wrongFrom s j st').2 = 0
  | [], p, i, st, hI, h => ⟨st, i, by rw [List.append_nil]; exact hI, h⟩
  | n :: q, p, i, st, hI, h => by
    rw [List.cons_append, wrongFrom] at h
    rcases wrong_step hI n with ⟨h0, hs⟩ | ⟨h0, st', hs, hI'⟩
    · rw [hs] at h; exact absurd h h0
    · rw [hs] at h
      obtain ⟨st2, j, h1, h2⟩ := wrong_cut s q (p ++ [n]) (i + 1) st' hI' h
      exact ⟨st2, j, by rw [List.append_assoc] at h1; exact h1, h2⟩
theorem rightN_iff (l : List S39) : rightN l = 0 ↔ (l.length ≤ 1000 ∧ l.all vld = true) ∧ (wrongFrom l 0 ⟨fun _ => none, fun _ => none⟩).2 = 0 := by
  constructor
  · intro h
    obtain ⟨_, hv⟩ := right_cases l
    have hv := hv (by omega)
    refine ⟨hv, ?_⟩
    unfold rightN journal_right.f journal_Wrong.f at h
    rw [if_pos hv] at h
    simp only [Option.bind_some] at h
    by_cases h0 : (wrongFrom l 0 ⟨fun _ => none, fun _ => none⟩).2 = 0
    · exact h0
    · rw [if_neg h0, if_neg (wrongFrom_err _ _ _)] at h; cases h
  · rintro ⟨hv, h0⟩
    unfold rightN journal_right.f journal_Wrong.f
    rw [if_pos hv]
    simp only [Option.bind_some]
    rw [if_pos h0, h0]; rfl
/-- The rest of a right journal, behind a cut where no unit goes on, is right by itself. -/
theorem right_rest {p s : List S39} (h : rightN (p ++ s) = 0) (ho : ∀ u, (sinceV p u).2 = false) : rightN s = 0 := by
  obtain ⟨hv, hw⟩ := (rightN_iff _).1 h
  obtain ⟨st', j, hI, hj⟩ := wrong_cut s p [] 0 _ winv_nil hw
  rw [List.nil_append] at hI
  rw [winv_off hI ho] at hj
  refine (rightN_iff _).2 ⟨⟨by have := hv.1; rw [List.length_append] at this; omega, ?_⟩, by rw [wrong_at s 0 j]; exact hj⟩
  have := hv.2
  rw [List.all_append, Bool.and_eq_true] at this
  exact this.2
theorem redo_eq {l : List S39} (h : rightN l = 0) : journal_Redo.f l 0 = some (redoR l, 0) := by
  obtain ⟨he, _⟩ := right_cases l
  unfold journal_Redo.f
  rw [he]
  simp only [Option.bind_some]
  rw [if_pos h, if_neg (by omega)]
  have := redo_same l [] (right_right h).2
  rw [← this]; rfl
theorem redo_whole {p s : List S39} (h : rightN (p ++ s) = 0) (hp : rightN p = 0) (ho : ∀ u, (sinceV p u).2 = false) : redoR (p ++ s) = redoR p ++ redoR s :=
  redoR_cut s p [] (right_right hp).2 ho
end Go.Proofs.Yteblpjnkinghoaa.J
/- JournalCuts holds of every input, in plain words. -/
namespace Go.Proofs.Yteblpjnkinghoaa.J
open Go.RowKit Go.Proofs.YteblpjnkinghoaaW.PrintWords
theorem open_from (l : List S39) (hl : l.length ≤ 9223372036854775807) : ∀ (d u : Nat), u + d = 1001 → ∀ out : List Int, out.length ≤ u →
    ∃ r : List Int, Ev (fun k => ringworkref25_Open.l0 k l out (u : Int)) (r, (0 : Int)) ∧ out.length ≤ r.length ∧ (r.length = out.length → ∀ v : Int, (u : Int) ≤ v → v ≤ 1000 → (sinceV l v).2 = false)
  | 0, u, hu, out, ho => ⟨out, Ev.step (fun k => by rw [ringworkref25_Open.l0, if_neg (by omega)]) (Ev.val _), Nat.le_refl _, fun _ v h1 h2 => by omega⟩
  | d + 1, u, hu, out, ho => by
    have hw : wrap64 ((u : Int) + 1) = ((u + 1 : Nat) : Int) := by unfold wrap64; omega
    have hs := ref_since l l.length (u : Int) (Nat.le_refl _) hl
    rw [List.take_length] at hs
    cases h2 : (sinceV l (u : Int)).2 with
    | true =>
      have hin := since_in h2
      obtain ⟨r, hr, h3, h4⟩ := open_from l hl d (u + 1) (by omega) (out ++ [(u : Int)]) (by simp; omega)
      rw [← hw] at hr
      simp only [List.length_append, List.length_singleton] at h3 h4
      refine ⟨r, Ev.step (fun k => by rw [ringworkref25_Open.l0, if_pos (by omega)]) (Ev.bind hs ?_), by omega, fun h => by omega⟩
      rw [show atI (sinceV l (u : Int)) = (sinceV l (u : Int)).1 by unfold atI; rw [if_pos h2]]
      simp only [if_pos (show (sinceV l (u : Int)).1 ≥ 0 from hin.1), if_pos (show out.length < 17592186044416 by omega)]
      exact hr
    | false =>
      obtain ⟨r, hr, h3, h4⟩ := open_from l hl d (u + 1) (by omega) out (by omega)
      rw [← hw] at hr
      refine ⟨r, Ev.step (fun k => by rw [ringworkref25_Open.l0, if_pos (by omega)]) (Ev.bind hs ?_), h3, fun h v h1 h5 => ?_⟩
      · rw [show atI (sinceV l (u : Int)) = -1 by unfold atI; rw [if_neg (by rw [h2]; decide)]]
        simp only [if_neg (show ¬ (-1 : Int) ≥ 0 by decide)]
        exact hr
      · by_cases e : v = u
        · subst e; exact h2
        · exact h4 h v (by omega) h5
/-- The reference's Open. -/
theorem ref_Open (l : List S39) (hl : l.length ≤ 9223372036854775807) : ∃ r : List Int × Int, Ev (fun k => ringworkref25_Open.f k l) r ∧ r.2 = rightN l ∧ (r.2 = 0 → r.1.length = 0 → ∀ v : Int, 1 ≤ v → v ≤ 1000 → (sinceV l v).2 = false) := by
  unfold ringworkref25_Open.f
  by_cases h0 : rightN l = 0
  · obtain ⟨r, hr, h1, h2⟩ := open_from l hl 1000 1 (by omega) [] (by simp)
    refine ⟨(r, 0), Ev.bind (ref_right l hl) ?_, h0.symm, fun _ h => h2 (by simpa using h)⟩
    simp only [if_pos h0]
    exact hr
  · refine ⟨([], rightN l), Ev.bind (ref_right l hl) ?_, rfl, fun h => absurd h h0⟩
    simp only [if_neg h0]
    exact Ev.val _
theorem state_bad {s : List S41} {l : List S39} (h : ordV s = false) : journal_State.f s l = some ([], 1) := by
  unfold journal_State.f
  rw [show journal_ordered.f s = some (ordV s) from rfl, h]; rfl
theorem state_eq {s : List S41} {l : List S39} (h : ordV s = true) (hr : rightN l = 0) : journal_State.f s l = journal_Apply.f s (redoR l) := by
  unfold journal_State.f
  rw [show journal_ordered.f s = some (ordV s) from rfl, h, redo_eq hr]
  simp only [Option.bind_some, if_true]
  cases journal_Apply.f s (redoR l) <;> rfl
theorem redoR_len : ∀ l : List S39, (redoR l).length ≤ l.length
  | [] => Nat.le_refl _
  | n :: l => by
    have := redoR_len l
    unfold redoR
    split <;> simp only [List.length_cons] <;> omega
theorem apply_eq {s a : List S41} (ha : a.length ≤ 900000) (ho : ordV s = true) : journal_Apply.f s a = if a.all img = true then (if 500 < (a.foldl apStep s).length then some ([], 4) else some (a.foldl apStep s, 0)) else some ([], 1) := by
  unfold journal_Apply.f
  rw [if_pos ha]
  by_cases h : a.all img = true
  · rw [if_pos ⟨ho, h⟩, if_pos h]
  · rw [if_neg (fun hh => h hh.2), if_neg h]
theorem cuts_law (base : List S41) (l : List S39) (a : Int) (hb : base.length ≤ 9223372036854775807) (hl : l.length ≤ 9223372036854775807) : Ev (fun k => ringworklaw25_JournalCuts.f k base l a) true := by
  unfold ringworklaw25_JournalCuts.f
  have hawake : Ev (fun k => ringworklaw25_JournalCuts.j0 k base l a true) true := Ev.step (fun k => by rw [ringworklaw25_JournalCuts.j0, if_pos rfl, awake_true]; rfl) (Ev.val _)
  obtain ⟨b1, h1, g1⟩ := notes_guard l hl
  obtain ⟨b2, h2, g2⟩ := images_guard base hb
  refine Ev.bind h1 ?_
  cases b1 with
  | false => exact hawake
  | true =>
    simp only [if_true]
    refine Ev.bind h2 ?_
    cases b2 with
    | false => exact hawake
    | true =>
      have g1 := g1 rfl
      simp only [if_true]
      by_cases hz : a < 0
      · simp only [if_pos hz]; exact hawake
      · simp only [if_neg hz]
        by_cases hz2 : a > (l.length : Int)
        · rw [decide_eq_true hz2]; exact hawake
        · rw [decide_eq_false hz2]
          obtain ⟨n, rfl⟩ : ∃ n : Nat, a = n := ⟨a.toNat, by omega⟩
          have hn : n ≤ l.length := by omega
          refine Ev.step (fun k => by rw [ringworklaw25_JournalCuts.j0, if_neg (by decide), if_pos (by omega), if_pos (by omega), Int.toNat_natCast]) ?_
          have hpl : (l.take n).length ≤ 9223372036854775807 := by rw [List.length_take]; omega
          obtain ⟨r, hr, hre, hro⟩ := ref_Open (l.take n) hpl
          refine Ev.bind hr ?_
          have hawake1 : Ev (fun k => ringworklaw25_JournalCuts.j1 k base l (n : Int) true) true := Ev.step (fun k => by rw [ringworklaw25_JournalCuts.j1, if_pos rfl, awake_true]; rfl) (Ev.val _)
          by_cases hr0 : r.2 = 0
          · simp only [if_pos hr0]
            by_cases hr1 : (r.1.length : Int) > 0
            · rw [decide_eq_true hr1]; exact hawake1
            · rw [decide_eq_false hr1]
              have hoff := hro hr0 (by omega)
              have hp : rightN (l.take n) = 0 := by rw [← hre]; exact hr0
              have hoff := off_all (fun m hm => List.all_eq_true.1 ((rightN_iff _).1 hp).1.2 m hm) hoff
              refine Ev.step (fun k => by rw [ringworklaw25_JournalCuts.j1, if_neg (by decide)]) ?_
              obtain ⟨q, hq, hqe, _⟩ := ref_Open l hl
              refine Ev.bind hq ?_
              by_cases hq0 : q.2 = 0
              · simp only [if_pos hq0, if_pos (show (0 : Int) ≤ (n : Int) by omega), if_pos (show (n : Int) ≤ (l.length : Int) by omega), Int.toNat_natCast, awake_true, Option.bind_some]
                have hw : rightN l = 0 := by rw [← hqe]; exact hq0
                have hsplit : l = l.take n ++ l.drop n := (List.take_append_drop n l).symm
                have hs : rightN (l.drop n) = 0 := right_rest (by rw [← hsplit]; exact hw) hoff
                have hredo : redoR l = redoR (l.take n) ++ redoR (l.drop n) := by
                  conv => lhs; rw [hsplit]
                  exact redo_whole (by rw [← hsplit]; exact hw) hp hoff
                have hl1 := redoR_len (l.take n)
                have hl2 := redoR_len (l.drop n)
                rw [List.length_take] at hl1
                rw [List.length_drop] at hl2
                cases ho : ordV base with
                | false =>
                  rw [state_bad ho, state_bad ho]
                  simp only [Option.bind_some, if_neg (show ¬ (1 : Int) = 0 by decide)]
                  exact Ev.val _
                | true =>
                  rw [state_eq ho hw, state_eq ho hp, apply_eq (by rw [hredo, List.length_append]; omega) ho, apply_eq (by omega) ho, hredo, List.all_append, List.foldl_append]
                  cases hi1 : (redoR (l.take n)).all img with
                  | false =>
                    simp only [Bool.false_and, if_neg (show ¬ (false = true) by decide), Option.bind_some, if_neg (show ¬ (1 : Int) = 0 by decide)]
                    exact Ev.val _
                  | true =>
                    simp only [Bool.true_and, if_true]
                    by_cases h5 : 500 < ((redoR (l.take n)).foldl apStep base).length
                    · rw [if_pos h5]
                      simp only [Option.bind_some, if_neg (show ¬ (4 : Int) = 0 by decide), if_true]
                      have fin4 : ∀ z : List S41 × Int, Ev (fun _ : Nat => (some z).bind fun (bt : List S41 × Int) => if bt.2 = 0 then some true else some true) true := fun z => by
                        simp only [Option.bind_some, ite_self]; exact Ev.val _
                      split
                      · split
                        · exact fin4 _
                        · exact fin4 _
                      · exact fin4 _
                    · rw [if_neg h5]
                      have ho1 : ordV ((redoR (l.take n)).foldl apStep base) = true := (apply_once (s := base) (a := redoR (l.take n)) (r := (redoR (l.take n)).foldl apStep base) (by rw [apply_eq (by omega) ho, if_pos hi1, if_neg h5])).2.2.2.1
                      simp only [Option.bind_some, if_true]
                      rw [state_eq ho1 hs, apply_eq (by omega) ho1]
                      have fin : ∀ x : List S41 × Int, x.1.length ≤ 9223372036854775807 → Ev (fun k => (some x).bind fun (y : List S41 × Int) => (some x).bind fun (z : List S41 × Int) => if y.2 = z.2 then ((ringworkref25_SameImages.f k y.1 z.1).bind fun t => if t = true then some true else some false) else some false) true := fun x hx => by
                        simp only [Option.bind_some, if_true]
                        exact Ev.bind (ref_same x.1 hx) (Ev.val _)
                      split
                      · split
                        · exact fin ([], 4) (by simp)
                        · rename_i h55; exact fin (_, 0) (Nat.le_trans (Nat.le_of_not_lt h55) (by decide))
                      · exact fin ([], 1) (by simp)
              · simp only [if_neg hq0, awake_true, Option.bind_some]; exact Ev.val _
          · simp only [if_neg hr0]; exact hawake1
end Go.Proofs.Yteblpjnkinghoaa.J
/- A slice of images, or of notes, that reads as data: its cells. -/
namespace Go.Proofs.Yteblpjnkinghoaa.J
open Go.RowKit Go.Deep Go.ChangeShapes Go.WideShapes Go.Proofs.YteblpjnkinghoaaW.PrintWords
section
variable {H : Type} {enc : TypeId × Value → H} {w : World} {base : Nat} {spare : Nat → Bool} {held : Bool}
set_option maxRecDepth 100000 in
theorem reads41 {fuel : Nat} {A : Option Addr} {n c : Nat} {x : DataW H × List MemPlace} (h : DataW.trod enc Try.prog w base spare held fuel 22 [.slice A n c] = some x) : ∃ l : List S41, l.length = n ∧ n ≤ c ∧ Kd.C k41 w A n l := by
  rcases open_slice Try.underlying22 h with ⟨hc, _⟩ | ⟨a, len, cap, m, q, D, Pl, hc, hb, hl, hm, hmm, _, hx⟩
  · simp at hc
    obtain ⟨rfl, rfl, rfl⟩ := hc
    exact ⟨[], rfl, Nat.le_refl _, Kd.C_nil _ _⟩
  · simp at hc
    obtain ⟨rfl, rfl, rfl⟩ := hc
    have hlm : n ≤ m := by rw [hmm]; split <;> omega
    have each : ∀ i, i < n → ∃ y : S41, w.cell? (a.add (i * 3)) = some (.string y.f0) ∧ w.cell? (a.add (i * 3 + 1)) = some (.bool y.f1) ∧ w.cell? (a.add (i * 3 + 2)) = some (.string y.f2) := fun i hi => by
      obtain ⟨cs', h1, h2⟩ := hx i (by omega)
      have ce : Try.prog.cellsOf 41 = 3 := by kernel_rfl
      rw [ce] at h1
      obtain ⟨_, hlen, hcell⟩ := World.cells?_some h1
      obtain ⟨xs, k, _, _, _, hxl, hf⟩ := DataW.trod_struct Try.underlying41 h2
      match xs, hxl, cs', hlen with
      | [y0, y1, y2], _, [v0, v1, v2], _ =>
        have c9 : Try.prog.cellsOf 9 = 1 := by kernel_rfl
        have c4 : Try.prog.cellsOf 4 = 1 := by kernel_rfl
        have g0 := hf 0 _ rfl
        have g1 := hf 1 _ rfl
        have g2 := hf 2 _ rfl
        simp [c9, c4] at g0 g1 g2
        obtain ⟨s0, e0, _⟩ := DataW.trod_string Try.underlying9 g0
        obtain ⟨b1, e1, _⟩ := DataW.trod_bool Try.underlying4 g1
        obtain ⟨s2, e2, _⟩ := DataW.trod_string Try.underlying9 g2
        cases e0; cases e1; cases e2
        have q0 := hcell 0 (by omega)
        have q1 := hcell 1 (by omega)
        have q2 := hcell 2 (by omega)
        rw [Deep.add_add] at q0 q1 q2
        exact ⟨⟨s0, b1, s2⟩, by simpa using q0, by simpa using q1, by simpa using q2⟩
    haveI : Inhabited S41 := ⟨⟨⟨#[]⟩, false, ⟨#[]⟩⟩⟩
    obtain ⟨f, hf⟩ := choose_lt each
    refine ⟨(List.range n).map f, by simp, hl, by simp, by simp only [maxLen] at hm; omega, fun _ => ⟨a, rfl, fun j p hj => ?_⟩⟩
    rw [List.getElem?_map] at hj
    obtain ⟨j', hj', rfl⟩ := Option.map_eq_some_iff.1 hj
    have hjn : j < n := by have := (List.getElem?_eq_some_iff.1 hj').1; simpa using this
    have : j' = j := by rw [List.getElem?_range hjn] at hj'; exact (Option.some.inj hj').symm
    subst this
    obtain ⟨q0, q1, q2⟩ := hf j' hjn
    refine ⟨_, rfl, k41_mk w (f j'), fun i u hu => ?_⟩
    have : i = 0 ∨ i = 1 ∨ i = 2 := by have := (List.getElem?_eq_some_iff.1 hu).1; simp at this; omega
    rcases this with rfl | rfl | rfl <;> cases hu
    · exact q0
    · exact q1
    · exact q2
set_option maxRecDepth 100000 in
theorem reads39 {fuel : Nat} {A : Option Addr} {n c : Nat} {x : DataW H × List MemPlace} (h : DataW.trod enc Try.prog w base spare held fuel 23 [.slice A n c] = some x) : ∃ l : List S39, l.length = n ∧ n ≤ c ∧ Kd.C k39 w A n l := by
  rcases open_slice Try.underlying23 h with ⟨hc, _⟩ | ⟨a, len, cap, m, q, D, Pl, hc, hb, hl, hm, hmm, _, hx⟩
  · simp at hc
    obtain ⟨rfl, rfl, rfl⟩ := hc
    exact ⟨[], rfl, Nat.le_refl _, Kd.C_nil _ _⟩
  · simp at hc
    obtain ⟨rfl, rfl, rfl⟩ := hc
    have hlm : n ≤ m := by rw [hmm]; split <;> omega
    have each : ∀ i, i < n → ∃ y : S39, w.cell? (a.add (i * 5)) = some (.int .i64 y.f0) ∧ w.cell? (a.add (i * 5 + 1)) = some (.int .i64 y.f1) ∧ w.cell? (a.add (i * 5 + 2)) = some (.string y.f2) ∧ w.cell? (a.add (i * 5 + 3)) = some (.bool y.f3) ∧ w.cell? (a.add (i * 5 + 4)) = some (.string y.f4) := fun i hi => by
      obtain ⟨cs', h1, h2⟩ := hx i (by omega)
      have ce : Try.prog.cellsOf 39 = 5 := by kernel_rfl
      rw [ce] at h1
      obtain ⟨_, hlen, hcell⟩ := World.cells?_some h1
      obtain ⟨xs, k, _, _, _, hxl, hf⟩ := DataW.trod_struct Try.underlying39 h2
      match xs, hxl, cs', hlen with
      | [y0, y1, y2, y3, y4], _, [v0, v1, v2, v3, v4], _ =>
        have c9 : Try.prog.cellsOf 9 = 1 := by kernel_rfl
        have c4 : Try.prog.cellsOf 4 = 1 := by kernel_rfl
        have c3 : Try.prog.cellsOf 3 = 1 := by kernel_rfl
        have g0 := hf 0 _ rfl
        have g1 := hf 1 _ rfl
        have g2 := hf 2 _ rfl
        have g3 := hf 3 _ rfl
        have g4 := hf 4 _ rfl
        simp [c9, c4, c3] at g0 g1 g2 g3 g4
        obtain ⟨s0, e0, _⟩ := DataW.trod_int Try.underlying3 g0
        obtain ⟨s1, e1, _⟩ := DataW.trod_int Try.underlying3 g1
        obtain ⟨s2, e2, _⟩ := DataW.trod_string Try.underlying9 g2
        obtain ⟨s3, e3, _⟩ := DataW.trod_bool Try.underlying4 g3
        obtain ⟨s4, e4, _⟩ := DataW.trod_string Try.underlying9 g4
        cases e0; cases e1; cases e2; cases e3; cases e4
        have q0 := hcell 0 (by omega)
        have q1 := hcell 1 (by omega)
        have q2 := hcell 2 (by omega)
        have q3 := hcell 3 (by omega)
        have q4 := hcell 4 (by omega)
        rw [Deep.add_add] at q0 q1 q2 q3 q4
        exact ⟨⟨s0, s1, s2, s3, s4⟩, by simpa using q0, by simpa using q1, by simpa using q2, by simpa using q3, by simpa using q4⟩
    haveI : Inhabited S39 := ⟨⟨0, 0, ⟨#[]⟩, false, ⟨#[]⟩⟩⟩
    obtain ⟨f, hf⟩ := choose_lt each
    refine ⟨(List.range n).map f, by simp, hl, by simp, by simp only [maxLen] at hm; omega, fun _ => ⟨a, rfl, fun j p hj => ?_⟩⟩
    rw [List.getElem?_map] at hj
    obtain ⟨j', hj', rfl⟩ := Option.map_eq_some_iff.1 hj
    have hjn : j < n := by have := (List.getElem?_eq_some_iff.1 hj').1; simpa using this
    have : j' = j := by rw [List.getElem?_range hjn] at hj'; exact (Option.some.inj hj').symm
    subst this
    obtain ⟨q0, q1, q2, q3, q4⟩ := hf j' hjn
    refine ⟨_, rfl, k39_mk w (f j'), fun i u hu => ?_⟩
    have : i = 0 ∨ i = 1 ∨ i = 2 ∨ i = 3 ∨ i = 4 := by have := (List.getElem?_eq_some_iff.1 hu).1; simp at this; omega
    rcases this with rfl | rfl | rfl | rfl | rfl <;> cases hu
    · exact q0
    · exact q1
    · exact q2
    · exact q3
    · exact q4
end
end Go.Proofs.Yteblpjnkinghoaa.J
/- the law JournalCuts holds of every input: it returns true, and its arguments read behind the call as they read before. Conditions: none. -/
namespace Go.Proofs.Yteblpjnkinghoaa.journalCuts
open Go.ChangeShapes Go.WideShapes Go.ChangeAt Go.RowKit Go.Proofs.Yteblpjnkinghoaa.J
open Go.ChangeMaps (open_string shut_string)
theorem own : ownKnob Try.prog.godebug = none := by kernel_rfl
theorem laidOut : laidOutB Try.prog = true := by kernel_rfl
set_option maxRecDepth 100000 in
theorem lifted (os : Os) (started : os.Started) (H : Type) (enc : TypeId × Value → H) :
    ReturnsInHanded {} Try.checked os 3 .any (Rows.journalCutsSpec.pre6 enc Try.prog Try.f3 Rows.journalCutsRow.domain false) (Rows.journalCutsSpec.post enc Try.prog Try.f3 false true false false) := by
  refine returnsInHanded_of_change_sized (C := Try.checked) own started (by kernel_rfl) Try.func3
    (ChangeSpec.witness6 (enc := enc) (C := Try.checked) false ⟨#[], #[.slice none 0 0, .slice none 0 0, .int .i64 0], []⟩ 8 (by kernel_rfl) (by kernel_rfl) (by kernel_rfl) (by kernel_rfl)) ?_
  intro W base args ds gs before hval0 hW hcnd hsz0 _
  have hsz : (DataW.weightsEach Try.prog (Try.f3.params.toList ++ Rows.journalCutsSpec.plain.varTypes Try.prog) (ds ++ gs)).all (· ≤ reachBytes) = true := hsz0
  have hval : ∀ (j : Nat) t v, Try.f3.params[j]? = some t → args[j]? = some v → Value.okWide Try.prog W .any base t v := hval0
  have hW' := hW
  obtain ⟨p, q, hA0, hV, rfl, hfz, hnd⟩ := hW
  have hA : DataW.TrodAll enc Try.prog W 0 (fun _ => true) true Try.f3.params.toList args.toList ds p := hA0
  rw [Try.params3] at hA hval hsz
  obtain ⟨v0, vs0, d0, ds0, p0, q0, hargs, rfl, rfl, h0, r0⟩ := trodAll_cons hA
  obtain ⟨v1, vs1, d1, ds1, p1, q1, rfl, rfl, rfl, h1, r1⟩ := trodAll_cons r0
  obtain ⟨v2, vs2, d2, ds2, p2, q2, rfl, rfl, rfl, h2, r2⟩ := trodAll_cons r1
  obtain ⟨rfl, rfl, rfl⟩ := trodAll_nil r2
  obtain rfl : args = #[v0, v1, v2] := by cases args; simp_all
  obtain ⟨rfl, rfl⟩ := trodVars_none hV
  obtain ⟨a0, len0, cap0, rfl⟩ := okWide_slice Try.underlying22 (hval 0 22 v0 rfl rfl)
  have k0 := h0
  have lt0 : ∀ x ∈ p0, x.block < W.heap.size := by obtain ⟨m, hm⟩ := k0; exact DataW.trod_lt m _ _ _ hm
  obtain ⟨l0, rfl, hc0, hr0⟩ : ∃ l, List.length l = len0 ∧ len0 ≤ cap0 ∧ Go.Proofs.YteblpjnkinghoaaW.PrintWords.Kd.C k41 W a0 len0 l := by obtain ⟨fuel, hf⟩ := h0; exact reads41 hf
  obtain ⟨a1, len1, cap1, rfl⟩ := okWide_slice Try.underlying23 (hval 1 23 v1 rfl rfl)
  have k1 := h1
  have lt1 : ∀ x ∈ p1, x.block < W.heap.size := by obtain ⟨m, hm⟩ := k1; exact DataW.trod_lt m _ _ _ hm
  obtain ⟨l1, rfl, hc1, hr1⟩ : ∃ l, List.length l = len1 ∧ len1 ≤ cap1 ∧ Go.Proofs.YteblpjnkinghoaaW.PrintWords.Kd.C k39 W a1 len1 l := by obtain ⟨fuel, hf⟩ := h1; exact reads39 hf
  obtain ⟨a2, rfl, rfl, rfl, w2⟩ := open_int Try.underlying3 (hval 2 3 v2 rfl rfl) h2
  clear hA0 hval0 hsz0 hsz
  obtain ⟨k, hk⟩ := (cuts_law l0 l1 a2 (Go.Proofs.YteblpjnkinghoaaW.PrintWords.Kd.C_max hr0) (Go.Proofs.YteblpjnkinghoaaW.PrintWords.Kd.C_max hr1)).ex
  refine (ringworklaw25_JournalCuts.calls k a0 cap0 l0 a1 cap1 l1 a2 true W hr0 hc0 hr1 hc1 hk).mono fun e W' ⟨he, bel⟩ => ?_
  subst he
  exact ⟨_, rfl, _, _, _, [], _, [], hW', trodAll_mk1 (shut_bool Try.underlying4 _), (trodAll_cons_mk (Below.trod laidOut (by kernel_rfl) (of_decide_eq_true (by kernel_rfl)) k0 bel lt0) (trodAll_cons_mk (Below.trod laidOut (by kernel_rfl) (of_decide_eq_true (by kernel_rfl)) k1 bel lt1) (trodAll_cons_mk (shut_int Try.underlying3 w2) trodAll_mk0))), rfl, bel.frame _, fun h => by cases h⟩
theorem over : Rows.journalCutsRow.holds Try.pinned (OpenSpec.ofChange Rows.journalCutsSpec) :=
  OpenClaim.holds_of_wide 3 Try.f3 rfl rfl rfl rfl rfl rfl rfl ⟨rfl, rfl, rfl, rfl, rfl⟩ rfl rfl rfl rfl rfl (by kernel_rfl) Try.func3 (by kernel_rfl)
    (of_decide_eq_true (by kernel_rfl)) (by unfold Func.isWrapper; first | (rw [if_pos (by decide +kernel)]; kernel_rfl) | (rw [if_neg (by decide +kernel)]; exact ⟨rfl, rfl⟩))
    (fun os started H enc _ => lifted os started H enc)
theorem proved : Rows.JournalCutsSaid := over
#print axioms proved
end Go.Proofs.Yteblpjnkinghoaa.journalCuts
namespace Go.Proofs.Yteblpjnkinghoaa
/-- The row, under a short name, for the claim. -/
theorem journalCuts_holds : Rows.JournalCutsSaid := journalCuts.proved
end Go.Proofs.Yteblpjnkinghoaa
